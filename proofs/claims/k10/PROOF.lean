import PyProof.Rows.All
import Wide.All
import OpenK.AllK
import Wide.FinOn
import HandS.ForMost
import HandS.Exc
import HandS.TryOnly
import HandS.TryMany
import HandS.ExcOwn
import HandS.WordsExc
import HandS.Star
import HandS.Deep
import HandS.TupLe
import HandS.TupAny
import HandS.TupMul
import HandS.Zip
import HandS.Walk
import HandS.Conv
import HandS.Style
import HandS.SortOrd
import HandS.SortRule
import HandS.Defaults
import HandS.CallSlots
import HandS.Property
import HandS.ExcInit
import KE.GoesEnum
import KE.GoesMore
import HandS.IsInst
import HandS.Small
import HandS.Dict
import KE.SortCalls
import KE.DataMinMax
import KE.SortData
import HandS.Strs
import HandS.SetFor
import HandS.Codes
import HandS.Head0
import HandS.Head1
import HandS.Head2
import HandS.HeadEnd
import HandS.HeadHook1
import HandS.HeadHook2
import HandS.Ends
import PySem.Challenge.RW_greedlots_k10_whole_kinds_of_kinds
set_option linter.all false
set_option Elab.async false
/-! The mirror machine: a small evaluator over plain data, in the place of the model's machine. -/
namespace MI
open PySem
/-- plain data. obj c fs: an instance of class c that no one changes any more; exc c fs: an error of class c; dic: an empty dict; ro: a list that is only read (the script) -/
inductive D where
  | non | bl (b : Bool) | int (i : Int) | str (x : List Nat)
  | tup (xs : List D) | lst (xs : List D) | obj (c : Nat) (xs : List D) | exc (c : Nat) (xs : List D) | dic
  | ro (xs : List D)
  deriving Inhabited
/-- what may change: a list, a dict, an instance -/
inductive Cell where
  | lst (xs : List D) | dict (kvs : List (D × D)) | inst (c : Nat) (xs : List D)
  deriving Inhabited
/-- a value while it runs: data, a cell, a cell that has just been made and that no one else knows -/
inductive RV where
  | d (x : D) | r (n : Nat) | new (c : Cell)
  deriving Inhabited
abbrev Sto := List Cell
abbrev Rho := List (Option RV)
inductive R (α : Type) where
  | ok (a : α) (S : Sto) | exc (c : Nat) (fs : List D) (S : Sto) | fail
def R.bind {α β : Type} (m : R α) (f : α → Sto → R β) : R β := match m with
  | .ok a S => f a S
  | .exc c fs S => .exc c fs S
  | .fail => .fail
def R.of {α : Type} (o : Option α) (S : Sto) : R α := match o with
  | some a => .ok a S
  | none => .fail
/-- a list that is let go: data from now on -/
def Cell.freeze : Cell → Option D
  | .lst xs => some (.lst xs)
  | .inst c xs => some (.obj c xs)
  | .dict [] => some .dic
  | _ => none
/-- what may be handed on: data or a cell -/
def RV.hand : RV → Option RV
  | .new c => c.freeze.map .d
  | v => some v
/-- the data that is seen at a value now -/
def RV.see (S : Sto) : RV → Option D
  | .d x => some x
  | .new c => c.freeze
  | .r n => match S[n]? with
    | some (.lst xs) => some (.lst xs)
    | _ => none
/-- as data that is handed on (a cell is none) -/
def RV.data : RV → Option D
  | .d x => some x
  | .new c => c.freeze
  | .r _ => none
mutual
def D.beq : D → D → Bool
  | .non, .non => true
  | .bl a, .bl b => a == b
  | .int a, .int b => a == b
  | .str a, .str b => a == b
  | .tup a, .tup b => D.beqs a b
  | .lst a, .lst b => D.beqs a b
  | .obj c a, .obj d b => c == d && D.beqs a b
  | .exc c a, .exc d b => c == d && D.beqs a b
  | .dic, .dic => true
  | .ro a, .ro b => D.beqs a b
  | _, _ => false
def D.beqs : List D → List D → Bool
  | [], [] => true
  | a :: as, b :: bs => a.beq b && D.beqs as bs
  | _, _ => false
end
/-- no instance, error or dict in it, nested at most n deep -/
def cpOk (l : List Nat) : Bool := l.all fun c => decide (c < 1114112)
mutual
def D.plain : D → Nat → Bool
  | .non, _ => true
  | .bl _, _ => true
  | .int _, _ => true
  | .str x, _ => cpOk x
  | .tup xs, n => (match n with | 0 => false | n + 1 => D.plains xs n)
  | .lst xs, n => (match n with | 0 => false | n + 1 => D.plains xs n)
  | _, _ => false
def D.plains : List D → Nat → Bool
  | [], _ => true
  | a :: as, n => a.plain n && D.plains as n
end
mutual
/-- Python's == -/
def D.eqv : D → D → Bool
  | .non, .non => true
  | .bl a, .bl b => a == b
  | .bl a, .int j => (if a then 1 else 0) == j
  | .int i, .bl b => i == (if b then 1 else 0)
  | .int i, .int j => i == j
  | .str x, .str y => x == y
  | .lst xs, .lst ys => D.eqvs xs ys
  | .tup xs, .tup ys => D.eqvs xs ys
  | _, _ => false
def D.eqvs : List D → List D → Bool
  | [], [] => true
  | x :: xs, y :: ys => x.eqv y && D.eqvs xs ys
  | _, _ => false
end
mutual
/-- order: ints, tuples of what has an order. c: comparable -/
def D.lt : D → D → Bool
  | .int i, .int j => decide (i < j)
  | .tup xs, .tup ys => D.lts xs ys
  | _, _ => false
def D.lts : List D → List D → Bool
  | [], [] => false
  | [], _ :: _ => true
  | _ :: _, [] => false
  | x :: xs, y :: ys => if x.beq y then D.lts xs ys else x.lt y
end
mutual
def D.cmp : D → D → Bool
  | .int _, .int _ => true
  | .tup xs, .tup ys => D.cmps xs ys
  | _, _ => false
def D.cmps : List D → List D → Bool
  | x :: xs, y :: ys => x.cmp y && D.cmps xs ys
  | _, _ => true
end
mutual
/-- ints and tuples of such, at most n deep -/
def D.ord : D → Nat → Bool
  | .int _, _ => true
  | .tup xs, n => (match n with | 0 => false | n + 1 => D.ords xs n)
  | _, _ => false
def D.ords : List D → Nat → Bool
  | [], _ => true
  | a :: as, n => a.ord n && D.ords as n
end
def insD (x : D) : List D → List D
  | [] => [x]
  | y :: ys => if x.lt y then x :: y :: ys else y :: insD x ys
/-- sorted, stable -/
def sortD (xs : List D) : List D := xs.foldl (fun acc x => insD x acc) []
def comparable (xs : List D) : Bool := xs.all fun a => a.ord 20 && xs.all fun b => a.cmp b
def minD : D → List D → D
  | m, [] => m
  | m, x :: xs => minD (if x.lt m then x else m) xs
def maxD : D → List D → D
  | m, [] => m
  | m, x :: xs => maxD (if m.lt x then x else m) xs
def ints? : List D → Option (List Int)
  | [] => some []
  | .int i :: r => (ints? r).map (i :: ·)
  | _ => none
def bools? : List D → Option (List Bool)
  | [] => some []
  | .bl b :: r => (bools? r).map (b :: ·)
  | _ => none
/-- the items of a list or tuple -/
def D.seq : D → Option (List D)
  | .lst xs => some xs
  | .tup xs => some xs
  | _ => none
def lim : Nat := 16777216
def ixAt (n : Nat) (i : Int) : Option Nat := if 0 ≤ i then (if i < n then some i.toNat else none) else if -(n : Int) ≤ i then some (i + n).toNat else none
def cutIx (n d : Nat) : Option Int → Nat
  | none => d
  | some v => if v < 0 then (v + (n : Int)).toNat else min v.toNat n
def cut {α : Type} (xs : List α) (lo hi : Option Int) : List α := (xs.drop (cutIx xs.length 0 lo)).take (cutIx xs.length xs.length hi - cutIx xs.length 0 lo)
/-- operators, comparisons -/
inductive Op where
  | add | sub | mul | fdiv | mod | pow | eq | ne | lt | le | gt | ge | mem | nmem
  deriving DecidableEq
inductive Ty where
  | int | bool | str | list | tuple | dict | lt | cls (c : Nat) | exc (c : Nat) | exb
  deriving DecidableEq
/-- built-ins by name; lenSet: len(set(x)); sortSet: sorted(set(x)); isT t: isinstance(x, t) -/
inductive Bi where
  | len | sum | min | max | all | any | sorted | tuple | list | int | str | abs | lenSet | sortSet | isT (t : Ty) (obs : List Nat) | index | join | split
  deriving DecidableEq
mutual
inductive E where
  | var (i : Nat)
  | k (d : D)
  | glob (x : Nat)
  | tup (es : Es) | lst (es : Es)
  | call (f : Nat) (es : Es)
  | mk (c : Nat) (es : Es)
  | meth (c f : Nat) (a : E) (es : Es)
  | bi (b : Bi) (es : Es)
  | op (o : Op) (a b : E)
  | chain (o p : Op) (a b c : E)
  | isN (a : E) | notN (a : E) | isB (a : E) (b : Bool) | notB (a : E) (b : Bool)
  | neg (a : E) | not (a : E) | and (a b : E) | or (a b : E)
  | ite (c a b : E)
  | comp (elt : E) (tg : Tg) (it : I) (ifs : O) (own : List Nat)
  | comp2 (elt : E) (tg : Tg) (it : I) (tg2 : Tg) (it2 : I) (ifs : O) (own own2 : List Nat)
  | sub (a i : E)
  | slice (a : E) (lo hi : O)
  | rev (a : E)
  | fld (c k : Nat) (a : E)
  | prop (c f : Nat) (a : E)
  | pop (a : E) | popAt (a i : E) | app (a e : E) | ext (a e : E)
  | fstr (s : List Nat) (a : E)
  | lrange (a : E)
  | dnew (es : Es) | dset (a k v : E) | dkeys (a : E)
  | xmk (c : Nat) (es : Es) | xfld (k : Nat) (a : E)
inductive O where
  | no | yes (e : E)
inductive Es where
  | nil | cons (star : Bool) (e : E) (r : Es)
inductive I where
  | e (e : E) | range1 (a : E) | range2 (a b : E) | enum (e : E) | zip (a b : E)
inductive Tg where
  | one (i : Nat) | two (i j : Nat)
end
/-- what an except suite says: a constant, the error's k-th field, a tuple of these; what slot i holds and one more -/
inductive Hx where
  | k (d : D) | fld (k : Nat) | pair (x y : Hx) | inc (i : Nat)
inductive Ha where
  | set (i : Nat) (x : Hx) | app (i : Nat) (x : Hx)
structure Hd where
  cls : Nat
  nm : Option Nat
  ha : Ha
mutual
inductive S where
  | set (i : Nat) (box : Bool) (e : E)
  | unp (is : List Nat) (e : E)
  | par (i : Nat) (bi : Bool) (j : Nat) (bj : Bool) (a b : E)
  | par3 (i : Nat) (bi : Bool) (j : Nat) (bj : Bool) (k : Nat) (bk : Bool) (a b c : E)
  | setItem (o i e : E)
  | parItem (o i o2 i2 a b : E)
  | setFld (c k : Nat) (o e : E)
  | ex (e : E)
  | ite (c : E) (a b : Ss)
  | for_ (tg : Tg) (it : I) (b : Ss)
  | while_ (c : E) (b : Ss)
  | ret (e : E) | retN
  | raise (c : Nat) (es : Es)
  | try_ (b : Ss) (hs : List Hd)
  | pass
  | bad
inductive Ss where
  | nil | cons (s : S) (r : Ss)
end
end MI
set_option linter.all false
set_option Elab.async false
namespace MI
/-! ### operations on data -/
def dgetD : List (D × D) → D → Option D
  | [], _ => none
  | (k, v) :: r, x => if k.beq x then some v else dgetD r x
def dputD : List (D × D) → D → D → List (D × D)
  | [], x, v => [(x, v)]
  | (k, u) :: r, x, v => if k.beq x then (k, v) :: r else (k, u) :: dputD r x v
def small64 (i : Int) : Bool := decide (-(2 ^ 64) < i ∧ i < 2 ^ 64)
def seqEq (a b : D) : Option Bool := if a.plain 60 && b.plain 60 then some (a.eqv b) else none
def memD (x : D) (xs : List D) : Option Bool := if x.plain 60 && D.plains xs 60 then some (xs.any fun y => y.eqv x) else none
def memS (x z : List Nat) : Option Bool := match x with
  | [c] => some (z.contains c)
  | _ => none
def inD (x : D) : D → Option Bool
  | .lst xs => memD x xs
  | .tup xs => memD x xs
  | .str z => (match x with
    | .str y => memS y z
    | _ => none)
  | _ => none
/-- two ints, or two tuples of ints -/
def rowsLt (xs ys : List D) : Option Bool := match ints? xs, ints? ys with
  | some _, some _ => some (D.lts xs ys)
  | _, _ => none
def addD : D → D → Option RV
  | .int i, .int j => some (.d (.int (i + j)))
  | .str x, .str y => if x.length + y.length ≤ lim then some (.d (.str (x ++ y))) else none
  | .lst xs, .lst ys => if xs.length + ys.length ≤ lim then some (.new (.lst (xs ++ ys))) else none
  | .tup xs, .tup ys => if xs.length + ys.length ≤ lim then some (.d (.tup (xs ++ ys))) else none
  | _, _ => none
def mulD : D → D → Option RV
  | .int i, .int j => if small64 i || small64 j then some (.d (.int (i * j))) else none
  | .tup xs, .int j => if 1 ≤ j ∧ j ≤ 64 ∧ 1 ≤ xs.length ∧ xs.length ≤ 64 then some (.d (.tup (List.replicate j.toNat xs).flatten)) else none
  | _, _ => none
def ints2 (f : Int → Int → Option RV) : D → D → Option RV
  | .int i, .int j => f i j
  | _, _ => none
def ltD (f : Int → Int → Bool) (g : List D → List D → Option Bool) : D → D → Option RV
  | .int i, .int j => some (.d (.bl (f i j)))
  | .tup xs, .tup ys => (g xs ys).map fun r => .d (.bl r)
  | _, _ => none
def opD : Op → D → D → Option RV
  | .add => addD
  | .sub => ints2 fun i j => some (.d (.int (i - j)))
  | .mul => mulD
  | .fdiv => ints2 fun i j => if 0 < j ∧ j < 1073741824 then some (.d (.int (i / j))) else none
  | .mod => ints2 fun i j => if 0 < j then some (.d (.int (i % j))) else none
  | .pow => ints2 fun i j => if 0 ≤ j ∧ j ≤ 1000000 ∧ i.natAbs < 2 ^ 64 then some (.d (.int (i ^ j.toNat))) else none
  | .eq => fun a b => (seqEq a b).map fun r => .d (.bl r)
  | .ne => fun a b => (seqEq a b).map fun r => .d (.bl (!r))
  | .lt => ltD (fun i j => decide (i < j)) rowsLt
  | .le => ltD (fun i j => decide (i ≤ j)) fun xs ys => (rowsLt ys xs).map (!·)
  | .gt => ints2 fun i j => some (.d (.bl (decide (j < i))))
  | .ge => ints2 fun i j => some (.d (.bl (decide (j ≤ i))))
  | .mem => fun x c => (inD x c).map fun r => .d (.bl r)
  | .nmem => fun x c => (inD x c).map fun r => .d (.bl (!r))
def isTy (sub : Nat → Nat → Bool) : Ty → D → Bool
  | .int, .int _ => true
  | .int, .bl _ => true
  | .bool, .bl _ => true
  | .str, .str _ => true
  | .list, .lst _ => true
  | .tuple, .tup _ => true
  | .dict, .dic => true
  | .lt, .lst _ => true
  | .lt, .tup _ => true
  | .cls c, .obj d _ => c == d
  | .exc c, .exc d _ => sub d c
  | .exb, .exc _ _ => true
  | _, _ => false
def firstAt (x : D) : List D → Nat → Option Nat
  | [], _ => none
  | y :: ys, n => if y.eqv x then some n else firstAt x ys (n + 1)
def isFlat : D → Bool
  | .non => true
  | .bl _ => true
  | .int _ => true
  | .str _ => true
  | _ => false
/-- the first of those that are equal -/
def dedup : List D → List D
  | [] => []
  | x :: xs => x :: (dedup xs).filter fun y => !(y.beq x)
def strs? : List D → Option (List (List Nat))
  | [] => some []
  | .str x :: r => (strs? r).map (x :: ·)
  | _ => none
def joinS (sep : List Nat) : List (List Nat) → List Nat
  | [] => []
  | [x] => x
  | x :: y :: r => x ++ sep ++ joinS sep (y :: r)
/-- split at one sign -/
def splitS (c : Nat) (cur : List Nat) : List Nat → List (List Nat)
  | [] => [cur.reverse]
  | x :: r => if x == c then cur.reverse :: splitS c [] r else splitS c (x :: cur) r
def natDigits (n : Nat) : List Nat := (toString n).toList.map Char.toNat
/-- the built-ins, one by one -/
def lenD : List D → Option RV
  | [.lst xs] => some (.d (.int (xs.length : Nat)))
  | [.tup xs] => some (.d (.int (xs.length : Nat)))
  | [.str xs] => if xs.length ≤ lim then some (.d (.int (xs.length : Nat))) else none
  | _ => none
def sumD : List D → Option RV
  | [.lst xs] => (ints? xs).map fun ns => .d (.int ns.sum)
  | _ => none
def minF : List D → Option RV
  | [.int i, .int j] => some (.d (.int (if j < i then j else i)))
  | [.lst (x :: xs)] => if comparable (x :: xs) then some (.d (minD x xs)) else none
  | _ => none
def maxF : List D → Option RV
  | [.int i, .int j] => some (.d (.int (if j > i then j else i)))
  | [.lst (x :: xs)] => if comparable (x :: xs) then some (.d (maxD x xs)) else none
  | _ => none
def allF : List D → Option RV
  | [.lst xs] => (bools? xs).map fun bs => .d (.bl (bs.all id))
  | _ => none
def anyF : List D → Option RV
  | [.lst xs] => (bools? xs).map fun bs => .d (.bl (bs.any id))
  | _ => none
def sortedF : List D → Option RV
  | [.lst xs] => if comparable xs then some (.new (.lst (sortD xs))) else none
  | [.tup xs] => if comparable xs then some (.new (.lst (sortD xs))) else none
  | _ => none
def tupleF : List D → Option RV
  | [.lst xs] => some (.d (.tup xs))
  | [.tup xs] => some (.d (.tup xs))
  | _ => none
def listF : List D → Option RV
  | [.lst xs] => some (.new (.lst xs))
  | [.tup xs] => some (.new (.lst xs))
  | _ => none
def intF : List D → Option RV
  | [.int i] => some (.d (.int i))
  | [.bl b] => some (.d (.int (if b then 1 else 0)))
  | [.str [c]] => if 48 ≤ c ∧ c ≤ 57 then some (.d (.int (c - 48 : Nat))) else none
  | _ => none
def strF : List D → Option RV
  | [.int i] => if 0 ≤ i ∧ i < 10 then some (.d (.str [i.toNat + 48])) else none
  | _ => none
def absF : List D → Option RV
  | [.int i] => some (.d (.int (if i < 0 then -i else i)))
  | _ => none
def lenSetF : List D → Option RV
  | [.lst xs] => if xs.length < 64 then (ints? xs).map fun _ => .d (.int ((dedup xs).length : Nat)) else none
  | [.tup xs] => if xs.length < 64 then (ints? xs).map fun _ => .d (.int ((dedup xs).length : Nat)) else none
  | _ => none
def sortSetF : List D → Option RV
  | [.tup xs] => if xs.length < 64 then (ints? xs).map fun _ => .new (.lst (sortD (dedup xs))) else none
  | _ => none
/-- the instances that one meets are of the classes that are told -/
def objOk (obs : List Nat) : D → Bool
  | .obj c _ => obs.contains c
  | .ro _ => false
  | _ => true
def isTF (sub : Nat → Nat → Bool) (t : Ty) (obs : List Nat) : List D → Option RV
  | [x] => if objOk obs x then some (.d (.bl (isTy sub t x))) else none
  | _ => none
def indexF : List D → Option RV
  | [.tup xs, x] => if isFlat x && xs.all isFlat then (firstAt x xs 0).map fun n => .d (.int (n : Nat)) else none
  | _ => none
def joinF : List D → Option RV
  | [.str s, .lst xs] => (strs? xs).bind fun ys => if (joinS s ys).length ≤ lim then some (.d (.str (joinS s ys))) else none
  | _ => none
def splitF : List D → Option RV
  | [.str s, .str [c]] => if s.length < 1000000 then some (.new (.lst ((splitS c [] s).map .str))) else none
  | _ => none
def biD (sub : Nat → Nat → Bool) : Bi → List D → Option RV
  | .len => lenD
  | .sum => sumD
  | .min => minF
  | .max => maxF
  | .all => allF
  | .any => anyF
  | .sorted => sortedF
  | .tuple => tupleF
  | .list => listF
  | .int => intF
  | .str => strF
  | .abs => absF
  | .lenSet => lenSetF
  | .sortSet => sortSetF
  | .isT t obs => isTF sub t obs
  | .index => indexF
  | .join => joinF
  | .split => splitF
def subD : D → D → Option D
  | .lst xs, .int i => (ixAt xs.length i).bind fun j => xs[j]?
  | .tup xs, .int i => (ixAt xs.length i).bind fun j => xs[j]?
  | .str xs, .int i => if xs.length ≤ lim then ((ixAt xs.length i).bind fun j => xs[j]?).map fun c => .str [c] else none
  | _, _ => none
def sliceD (lo hi : Option Int) : D → Option RV
  | .lst xs => some (.new (.lst (cut xs lo hi)))
  | .tup xs => some (.d (.tup (cut xs lo hi)))
  | .str xs => if xs.length ≤ lim then some (.d (.str (cut xs lo hi))) else none
  | _ => none
def revD : D → Option RV
  | .lst xs => some (.new (.lst xs.reverse))
  | _ => none
/-! ### the machine -/
/-- what the text has beside its defs: call f vs: the f-th def; globs: the module's constants; init, eqf: a class's __init__, __eq__; exf: an error class: how many fields its own __init__ sets (none: it has no __init__);
  wf: how many turns a while may take; sub: whether an error class stands under another -/
structure G where
  call : Nat → List RV → Sto → R RV
  globs : List D
  init : List Nat
  eqf : List Nat
  sub : Nat → Nat → Bool
  wf : Nat
def RV.isTrue : RV → Option Bool
  | .d (.bl b) => some b
  | _ => none
def RV.isNon : RV → Bool
  | .d .non => true
  | _ => false
def tst (m : R RV) : R Bool := m.bind fun v S => R.of v.isTrue S
def wipe (ρ : Rho) : List Nat → Rho
  | [] => ρ
  | v :: vs => (wipe ρ vs).set v none
/-- a source: its items, and the cell that must stay as it is -/
structure Src where
  items : List D
  cell : Option Nat
def stillB (n : Nat) (xs : List D) (S : Sto) : Bool := match S[n]? with
  | some (.lst ys) => D.beqs ys xs
  | _ => false
def Src.still (s : Src) (S : Sto) : Bool := match s.cell with
  | none => true
  | some n => stillB n s.items S
def srcOf (S : Sto) : RV → Option Src
  | .d (.lst xs) => some ⟨xs, none⟩
  | .d (.tup xs) => some ⟨xs, none⟩
  | .d (.ro xs) => some ⟨xs, none⟩
  | .r n => (match S[n]? with
    | some (.lst xs) => some ⟨xs, some n⟩
    | _ => none)
  | .new (.lst xs) => some ⟨xs, none⟩
  | _ => none
def rangeD (lo : Int) (n : Nat) : List D := (List.range n).map fun k => .int (lo + (k : Nat))
def rangeOk (i j : Int) : Bool := decide (-(2 ^ 62) ≤ i ∧ i < 2 ^ 62 ∧ -(2 ^ 62) ≤ j ∧ j < 2 ^ 62 ∧ j - i ≤ 1000000)
def enumD (xs : List D) : List D := xs.mapIdx fun i x => .tup [.int (i : Nat), x]
def zipD : List D → List D → List D
  | x :: xs, y :: ys => .tup [x, y] :: zipD xs ys
  | _, _ => []
def bindT (ρ : Rho) (t : Tg) (x : D) : Option Rho := match t with
  | .one i => some (ρ.set i (some (.d x)))
  | .two i j => match x with
    | .tup [a, b] => some ((ρ.set i (some (.d a))).set j (some (.d b)))
    | _ => none
/-- an item put behind the list in cell k -/
def pushC (S : Sto) (k : Nat) (d : D) : R Unit := match S[k]? with
  | some (.lst xs) => if xs.length < lim then .ok () (S.set k (.lst (xs ++ [d]))) else .fail
  | _ => .fail
def compL (f : D → Sto → R Unit) (still : Sto → Bool) : List D → Sto → R Unit
  | [], S => if still S then .ok () S else .fail
  | x :: xs, S => if still S then (match f x S with
      | .ok _ S1 => compL f still xs S1
      | _ => .fail) else .fail
/-- the last cell goes out as a new value -/
def outC (k : Nat) (S : Sto) : R RV := match S[k]? with
  | some c => .ok (.new c) (S.take k)
  | none => .fail
/-- one turn: the test, the element, the push -/
def compTn (t : Rho → Sto → R Bool) (e : Rho → Sto → R RV) (k : Nat) (ρ : Rho) (S : Sto) : R Unit := (t ρ S).bind fun r S => if r then (e ρ S).bind fun v S => (R.of v.data S).bind fun d S => pushC S k d else .ok () S
def compW (ρ : Rho) (tg : Tg) (f : Rho → Sto → R Unit) (x : D) (S : Sto) : R Unit := match bindT ρ tg x with
  | none => .fail
  | some ρ1 => f ρ1 S
def popC (S : Sto) (n : Nat) (k : Option Int) : R RV := match S[n]? with
  | some (.lst xs) => (match k with
    | none => (match xs[xs.length - 1]? with
      | some y => if xs.isEmpty then .fail else .ok (.d y) (S.set n (.lst xs.dropLast))
      | none => .fail)
    | some i => (match ixAt xs.length i with
      | some j => (match xs[j]? with
        | some y => .ok (.d y) (S.set n (.lst (xs.eraseIdx j)))
        | none => .fail)
      | none => .fail))
  | _ => .fail
/-- the cell is a list, a dict -/
def isL (S : Sto) (n : Nat) : Bool := match S[n]? with
  | some (.lst _) => true
  | _ => false
def isDct (S : Sto) (n : Nat) : Bool := match S[n]? with
  | some (.dict _) => true
  | _ => false
def appC (S : Sto) (n : Nat) (ys : List D) : R RV := match S[n]? with
  | some (.lst xs) => if xs.length + ys.length ≤ lim then .ok (.d .non) (S.set n (.lst (xs ++ ys))) else .fail
  | _ => .fail
def pairUp : List D → Option (List (D × D))
  | [] => some []
  | [.tup k, v] => some [(.tup k, v)]
  | _ => none
def dsetC (S : Sto) (n : Nat) (k v : D) : R RV := match S[n]? with
  | some (.dict kvs) => (match dgetD kvs k with
    | some u => .ok (.d u) S
    | none => .ok (.d v) (S.set n (.dict (kvs ++ [(k, v)]))))
  | _ => .fail
/-- the operator, where the left side may be an instance with its own == -/
def opR (g : G) (o : Op) (x y : RV) (S : Sto) : R RV :=
  match x.see S, y.see S with
  | some (.obj c xs), some b => (match o with
    | .eq => (match g.eqf[c]? with | some f => g.call f [.d (.obj c xs), .d b] S | none => .fail)
    | .ne => (match g.eqf[c]? with
      | some f => (g.call f [.d (.obj c xs), .d b] S).bind fun v S => R.of (v.isTrue.map fun r => .d (.bl (!r))) S
      | none => .fail)
    | _ => .fail)
  | some a, some b => R.of (opD o a b) S
  | some a, none => (match y with
    | .r n => (match S[n]? with
      | some (.dict kvs) => (match o with
        | .mem => .fail
        | .nmem => .fail
        | _ => .fail)
      | _ => .fail)
    | _ => .fail)
  | _, _ => .fail
def fldOf (S : Sto) (c k : Nat) : RV → Option D
  | .d (.obj e xs) => if e = c then xs[k]? else none
  | .d (.exc e xs) => if e = c then xs[k]? else none
  | .r n => (match S[n]? with
    | some (.inst e xs) => if e = c then xs[k]? else none
    | _ => none)
  | .new (.inst e xs) => if e = c then xs[k]? else none
  | _ => none
def isObjOf (S : Sto) (c : Nat) : RV → Bool
  | .d (.obj e _) => e == c
  | .r n => (match S[n]? with
    | some (.inst e _) => e == c
    | _ => false)
  | _ => false
/-- a def's end: its own cells go -/
def fin (k : Nat) (v : RV) (S : Sto) : R RV := match v with
  | .d x => .ok (.d x) (S.take k)
  | .new c => .ok (.new c) (S.take k)
  | .r m => if m < k then .ok (.r m) (S.take k) else match S[m]? with
    | some c => .ok (.new c) (S.take k)
    | none => .fail
/-- C(..): a new cell, __init__, the cell is handed on -/
def mkObj (g : G) (c : Nat) (vs : List RV) (S : Sto) : R RV := match g.init[c]? with
  | none => .fail
  | some f => match g.call f (.r S.length :: vs) (S ++ [.inst c []]) with
    | .ok (.d .non) S1 => (match S1[S.length]? with
      | some cell => .ok (.new cell) (S1.take S.length)
      | none => .fail)
    | .exc e fs S1 => .exc e fs (S1.take S.length)
    | _ => .fail
/-- no error may come out -/
def R.noExc {α : Type} : R α → R α
  | .ok a S => .ok a S
  | _ => .fail
def R.seeN (m : R (List RV)) (f : List D → Option RV) : R RV := m.bind fun vs S => R.of ((vs.mapM (RV.see S)).bind f) S
mutual
def ev (g : G) : E → Rho → Sto → R RV
  | .var i, ρ, S => (match ρ[i]? with
    | some (some v) => .ok v S
    | _ => .fail)
  | .k d, _, S => .ok (.d d) S
  | .glob x, _, S => R.of (g.globs[x]?.map .d) S
  | .tup es, ρ, S => (evh g es ρ S).bind fun vs S => R.of ((vs.mapM RV.data).bind fun ds => if ds.length ≤ lim then some (.d (.tup ds)) else none) S
  | .lst es, ρ, S => (evh g es ρ S).bind fun vs S => R.of ((vs.mapM RV.data).bind fun ds => if ds.length ≤ lim then some (.new (.lst ds)) else none) S
  | .call f es, ρ, S => (evh g es ρ S).bind fun vs S => g.call f vs S
  | .mk c es, ρ, S => (evh g es ρ S).bind fun vs S => mkObj g c vs S
  | .meth c f a es, ρ, S => (ev g a ρ S).bind fun x S => (R.of x.hand S).bind fun x S => if isObjOf S c x then (evh g es ρ S).bind fun vs S => g.call f (x :: vs) S else .fail
  | .bi b es, ρ, S => (evh g es ρ S).seeN (biD g.sub b)
  | .op o a b, ρ, S => (ev g a ρ S).bind fun x S => (R.of x.hand S).bind fun x S => (ev g b ρ S).bind fun y S => opR g o x y S
  | .chain o p a b c, ρ, S => (ev g a ρ S).bind fun x S => (R.of x.hand S).bind fun x S => (ev g b ρ S).bind fun y S => (R.of y.hand S).bind fun y S => (tst (opR g o x y S)).bind fun r S =>
      if r then (ev g c ρ S).bind fun z S => opR g p y z S else .ok (.d (.bl false)) S
  | .isN a, ρ, S => (ev g a ρ S).bind fun x S => .ok (.d (.bl x.isNon)) S
  | .notN a, ρ, S => (ev g a ρ S).bind fun x S => .ok (.d (.bl (!x.isNon))) S
  | .isB a b, ρ, S => (ev g a ρ S).bind fun x S => R.of (x.isTrue.map fun r => .d (.bl (r == b))) S
  | .notB a b, ρ, S => (ev g a ρ S).bind fun x S => R.of (x.isTrue.map fun r => .d (.bl (!(r == b)))) S
  | .neg a, ρ, S => (ev g a ρ S).bind fun x S => (match x with
    | .d (.int i) => .ok (.d (.int (-i))) S
    | _ => .fail)
  | .not a, ρ, S => (tst (ev g a ρ S)).bind fun r S => .ok (.d (.bl (!r))) S
  | .and a b, ρ, S => (tst (ev g a ρ S)).bind fun r S => if r then ev g b ρ S else .ok (.d (.bl false)) S
  | .or a b, ρ, S => (tst (ev g a ρ S)).bind fun r S => if r then .ok (.d (.bl true)) S else ev g b ρ S
  | .ite c a b, ρ, S => (tst (ev g c ρ S)).bind fun r S => if r then ev g a ρ S else ev g b ρ S
  | .comp elt tg it ifs own, ρ, S => (evI g it ρ S).bind fun s S => (compL (compW (wipe ρ own) tg (compTn (evO g ifs) (ev g elt) S.length)) s.still s.items (S ++ [.lst []])).bind fun _ S1 => outC S.length S1
  | .comp2 elt tg it tg2 it2 ifs own own2, ρ, S => (evI g it ρ S).bind fun s S => (compL (compW (wipe ρ own) tg fun ρ1 S1 => (evI g it2 ρ1 S1).bind fun s2 S2 =>
      compL (compW (wipe ρ1 own2) tg2 (compTn (evO g ifs) (ev g elt) S.length)) s2.still s2.items S2) s.still s.items (S ++ [.lst []])).bind fun _ S1 => outC S.length S1
  | .sub a i, ρ, S => (ev g a ρ S).bind fun x S => (R.of x.hand S).bind fun x S => (ev g i ρ S).bind fun y S => R.of ((x.see S).bind fun a => (y.see S).bind fun b => (subD a b).map .d) S
  | .slice a lo hi, ρ, S => (ev g a ρ S).bind fun x S => (R.of x.hand S).bind fun x S => (evP g lo ρ S).bind fun l S => (evP g hi ρ S).bind fun h S => R.of ((x.see S).bind (sliceD l h)) S
  | .rev a, ρ, S => (ev g a ρ S).bind fun x S => R.of ((x.see S).bind revD) S
  | .fld c k a, ρ, S => (ev g a ρ S).bind fun x S => R.of ((fldOf S c k x).map .d) S
  | .prop c f a, ρ, S => (ev g a ρ S).bind fun x S => (R.of x.hand S).bind fun x S => if isObjOf S c x then (g.call f [x] S).noExc else .fail
  | .pop a, ρ, S => (ev g a ρ S).bind fun x S => (match x with
    | .r n => popC S n none
    | _ => .fail)
  | .popAt a i, ρ, S => (ev g a ρ S).bind fun x S => (match x with
    | .r n => if isL S n then (ev g i ρ S).bind fun y S => (match y with
      | .d (.int j) => popC S n (some j)
      | _ => .fail) else .fail
    | _ => .fail)
  | .app a e, ρ, S => (ev g a ρ S).bind fun x S => (match x with
    | .r n => if isL S n then (ev g e ρ S).bind fun y S => (R.of y.data S).bind fun y S => appC S n [y] else .fail
    | _ => .fail)
  | .ext a e, ρ, S => (ev g a ρ S).bind fun x S => (match x with
    | .r n => if isL S n then (ev g e ρ S).bind fun y S => (R.of y.data S).bind fun y S => (match y with
      | .lst ys => appC S n ys
      | _ => .fail) else .fail
    | _ => .fail)
  | .fstr s a, ρ, S => (ev g a ρ S).bind fun x S => (match x with
    | .d (.int i) => if 0 ≤ i ∧ i < 10 then .ok (.d (.str (s ++ [i.toNat + 48]))) S else .fail
    | _ => .fail)
  | .lrange a, ρ, S => (ev g a ρ S).bind fun x S => (match x with
    | .d (.int n) => if rangeOk 0 n then .ok (.new (.lst (rangeD 0 n.toNat))) S else .fail
    | _ => .fail)
  | .dnew es, ρ, S => (evh g es ρ S).bind fun vs S => R.of ((vs.mapM RV.data).bind fun ds => (pairUp ds).map fun kvs => .new (.dict kvs)) S
  | .dset a k v, ρ, S => (ev g a ρ S).bind fun x S => (match x with
    | .r n => if isDct S n then (ev g k ρ S).bind fun y S => (R.of y.data S).bind fun y S => (ev g v ρ S).bind fun z S => (R.of z.data S).bind fun z S => dsetC S n y z else .fail
    | _ => .fail)
  | .dkeys a, ρ, S => (ev g a ρ S).bind fun x S => (match x with
    | .r n => (match S[n]? with
      | some (.dict kvs) => .ok (.new (.lst (kvs.map (·.1)))) S
      | _ => .fail)
    | _ => .fail)
  | .xmk c es, ρ, S => (evh g es ρ S).bind fun vs S => R.of ((vs.mapM RV.data).map fun ds => .d (.exc c ds)) S
  | .xfld k a, ρ, S => (ev g a ρ S).bind fun x S => (match x with
    | .d (.exc _ fs) => R.of ((fs[k]?).map .d) S
    | _ => .fail)
def evh (g : G) : Es → Rho → Sto → R (List RV)
  | .nil, _, S => .ok [] S
  | .cons star e r, ρ, S => (ev g e ρ S).bind fun v S => (R.of v.hand S).bind fun v S =>
      if star then (R.of ((v.see S).bind D.seq) S).bind fun xs S => (evh g r ρ S).bind fun vs S => .ok (xs.map .d ++ vs) S
      else (evh g r ρ S).bind fun vs S => .ok (v :: vs) S
def evI (g : G) : I → Rho → Sto → R Src
  | .e e, ρ, S => (ev g e ρ S).bind fun v S => R.of (srcOf S v) S
  | .range1 a, ρ, S => (ev g a ρ S).bind fun x S => (match x with
    | .d (.int n) => if rangeOk 0 n then .ok ⟨rangeD 0 n.toNat, none⟩ S else .fail
    | _ => .fail)
  | .range2 a b, ρ, S => (ev g a ρ S).bind fun x S => (ev g b ρ S).bind fun y S => (match x, y with
    | .d (.int i), .d (.int j) => if rangeOk i j then .ok ⟨rangeD i (j - i).toNat, none⟩ S else .fail
    | _, _ => .fail)
  | .enum e, ρ, S => (ev g e ρ S).bind fun v S => (match v.data with
    | some (.lst xs) => .ok ⟨enumD xs, none⟩ S
    | some (.tup xs) => .ok ⟨enumD xs, none⟩ S
    | _ => .fail)
  | .zip a b, ρ, S => (ev g a ρ S).bind fun x S => (R.of x.data S).bind fun x S => (ev g b ρ S).bind fun y S => (R.of y.data S).bind fun y S => (match x, y with
    | .lst xs, .lst ys => .ok ⟨zipD xs ys, none⟩ S
    | .tup xs, .tup ys => .ok ⟨zipD xs ys, none⟩ S
    | _, _ => .fail)
/-- a slice's bound -/
def evP (g : G) : O → Rho → Sto → R (Option Int)
  | .no, _, S => .ok none S
  | .yes e, ρ, S => (ev g e ρ S).bind fun x S => (match x with
    | .d (.int i) => .ok (some i) S
    | _ => .fail)
/-- a comprehension's test -/
def evO (g : G) : O → Rho → Sto → R Bool
  | .no, _, S => .ok true S
  | .yes e, ρ, S => tst (ev g e ρ S)
end
end MI
set_option linter.all false
set_option Elab.async false
namespace MI
/-- how a statement ends -/
inductive X where
  | nx (ρ : Rho) (S : Sto) | ret (v : RV) (S : Sto) | exc (c : Nat) (fs : List D) (ρ : Rho) (S : Sto) | fail
/-- an expression's value, then -/
def R.then_ {α : Type} (m : R α) (ρ : Rho) (f : α → Sto → X) : X := match m with
  | .ok a S => f a S
  | .exc c fs S => .exc c fs ρ S
  | .fail => .fail
/-- a slot is stored: box: a new list, dict or instance is a cell from now on -/
def setS (i : Nat) (box : Bool) (v : RV) (ρ : Rho) (S : Sto) : X := match v with
  | .new c => if box then .nx (ρ.set i (some (.r S.length))) (S ++ [c]) else (match c.freeze with
    | some d => .nx (ρ.set i (some (.d d))) S
    | none => .fail)
  | v => .nx (ρ.set i (some v)) S
def setMany : List Nat → List D → Rho → Option Rho
  | [], [], ρ => some ρ
  | i :: is, d :: ds, ρ => setMany is ds (ρ.set i (some (.d d)))
  | _, _, _ => none
def putC (S : Sto) (o i : RV) (d : D) : Option Sto := match o with
  | .r n => (match S[n]? with
    | some (.lst xs) => (match i with
      | .d (.int k) => (ixAt xs.length k).map fun j => S.set n (.lst (xs.set j d))
      | _ => none)
    | some (.dict kvs) => (match i with
      | .d (.tup ks) => none
      | _ => none)
    | _ => none)
  | _ => none
def putF (S : Sto) (c k : Nat) (o : RV) (d : D) : Option Sto := match o with
  | .r n => (match S[n]? with
    | some (.inst e xs) => if e = c then (if k < xs.length then some (S.set n (.inst c (xs.set k d))) else if k = xs.length then some (S.set n (.inst c (xs ++ [d]))) else none) else none
    | _ => none)
  | _ => none
def forL (b : D → Rho → Sto → X) (still : Sto → Bool) : List D → Rho → Sto → X
  | [], ρ, S => if still S then .nx ρ S else .fail
  | x :: xs, ρ, S => if still S then (match b x ρ S with
      | .nx ρ1 S1 => forL b still xs ρ1 S1
      | r => r) else .fail
def whileL (c : Rho → Sto → R Bool) (b : Rho → Sto → X) : Nat → Rho → Sto → X
  | 0, _, _ => .fail
  | n + 1, ρ, S => (c ρ S).then_ ρ fun r S => if r then (match b ρ S with
      | .nx ρ1 S1 => whileL c b n ρ1 S1
      | r => r) else .nx ρ S
def hxV (fs : List D) (ρ : Rho) : Hx → Option D
  | .k d => some d
  | .fld k => fs[k]?
  | .pair x y => (hxV fs ρ x).bind fun a => (hxV fs ρ y).map fun b => .tup [a, b]
  | .inc i => match ρ[i]? with
    | some (some (.d (.int n))) => some (.int (n + 1))
    | _ => none
def haX (fs : List D) (ρ : Rho) (S : Sto) : Ha → X
  | .set i x => match hxV fs ρ x with
    | some d => .nx (ρ.set i (some (.d d))) S
    | none => .fail
  | .app i x => match hxV fs ρ x, ρ[i]? with
    | some d, some (some (.r n)) => (match appC S n [d] with
      | .ok _ S1 => .nx ρ S1
      | _ => .fail)
    | _, _ => .fail
def clear (ρ : Rho) : Option Nat → Rho
  | none => ρ
  | some i => ρ.set i none
def catchX (sub : Nat → Nat → Bool) (c : Nat) (fs : List D) (ρ : Rho) (S : Sto) : List Hd → X
  | [] => .exc c fs ρ S
  | h :: hs => if sub c h.cls then (match haX fs ρ S h.ha with
      | .nx ρ1 S1 => .nx (clear ρ1 h.nm) S1
      | _ => .fail) else catchX sub c fs ρ S hs
mutual
def ex (g : G) : S → Rho → Sto → X
  | .set i box e, ρ, S => (ev g e ρ S).then_ ρ fun v S => setS i box v ρ S
  | .unp is e, ρ, S => (ev g e ρ S).then_ ρ fun v S => (match v.data.bind D.seq with
    | some ds => (match setMany is ds ρ with
      | some ρ1 => .nx ρ1 S
      | none => .fail)
    | _ => .fail)
  | .par i bi j bj a b, ρ, S => (ev g a ρ S).then_ ρ fun x S => (match setS i bi x ρ S with
    | .nx ρ1 S => (ev g b ρ S).then_ ρ fun y S => setS j bj y ρ1 S
    | _ => .fail)
  | .par3 i bi j bj k bk a b c, ρ, S => (ev g a ρ S).then_ ρ fun x S => (match setS i bi x ρ S with
    | .nx ρ1 S => (ev g b ρ S).then_ ρ fun y S => (match setS j bj y ρ1 S with
      | .nx ρ2 S => (ev g c ρ S).then_ ρ fun z S => setS k bk z ρ2 S
      | _ => .fail)
    | _ => .fail)
  | .setItem o i e, ρ, S => (ev g e ρ S).then_ ρ fun v S => (R.of v.data S).then_ ρ fun d S => (ev g o ρ S).then_ ρ fun x S => (ev g i ρ S).then_ ρ fun y S => (match putC S x y d with
    | some S1 => .nx ρ S1
    | none => .fail)
  | .parItem o i o2 i2 a b, ρ, S => (ev g a ρ S).then_ ρ fun v S => (R.of v.data S).then_ ρ fun d S => (ev g b ρ S).then_ ρ fun v S => (R.of v.data S).then_ ρ fun d2 S =>
      (ev g o ρ S).then_ ρ fun x S => (ev g i ρ S).then_ ρ fun y S => (match putC S x y d with
        | some S => (ev g o2 ρ S).then_ ρ fun x S => (ev g i2 ρ S).then_ ρ fun y S => (match putC S x y d2 with
          | some S1 => .nx ρ S1
          | none => .fail)
        | none => .fail)
  | .setFld c k o e, ρ, S => (ev g e ρ S).then_ ρ fun v S => (R.of v.data S).then_ ρ fun d S => (ev g o ρ S).then_ ρ fun x S => (match putF S c k x d with
    | some S1 => .nx ρ S1
    | none => .fail)
  | .ex e, ρ, S => (ev g e ρ S).then_ ρ fun _ S => .nx ρ S
  | .ite c a b, ρ, S => (tst (ev g c ρ S)).then_ ρ fun r S => if r then exs g a ρ S else exs g b ρ S
  | .for_ tg it b, ρ, S => (evI g it ρ S).then_ ρ fun s S => forL (fun x ρ S => match bindT ρ tg x with
      | some ρ1 => exs g b ρ1 S
      | none => .fail) s.still s.items ρ S
  | .while_ c b, ρ, S => whileL (fun ρ S => tst (ev g c ρ S)) (fun ρ S => exs g b ρ S) g.wf ρ S
  | .ret e, ρ, S => (ev g e ρ S).then_ ρ fun v S => .ret v S
  | .retN, _, S => .ret (.d .non) S
  | .raise c es, ρ, S => (evh g es ρ S).then_ ρ fun vs S => (R.of (vs.mapM RV.data) S).then_ ρ fun ds S => .exc c ds ρ S
  | .try_ b hs, ρ, S => (match exs g b ρ S with
    | .exc c fs ρ1 S1 => if decide (c < g.init.length) && g.sub c c then catchX g.sub c fs ρ1 S1 hs else .fail
    | r => r)
  | .pass, ρ, S => .nx ρ S
  | .bad, _, _ => .fail
def exs (g : G) : Ss → Rho → Sto → X
  | .nil, ρ, S => .nx ρ S
  | .cons s r, ρ, S => (match ex g s ρ S with
    | .nx ρ1 S1 => exs g r ρ1 S1
    | x => x)
end
/-- a def: how many parameters, how many names, its body -/
structure Fd where
  np : Nat
  nn : Nat
  body : Ss
/-- a text: its defs, constants .. -/
structure Txt where
  fds : List Fd
  globs : List D
  init : List Nat
  eqf : List Nat
  sub : Nat → Nat → Bool
  wf : Nat
def runF (g : G) (fd : Fd) (vs : List RV) (S : Sto) : R RV :=
  if vs.length = fd.np then match exs g fd.body (vs.map some ++ List.replicate (fd.nn - fd.np) none) S with
    | .nx _ S1 => fin S.length (.d .non) S1
    | .ret v S1 => fin S.length v S1
    | .exc c fs _ S1 => .exc c fs (S1.take S.length)
    | .fail => .fail
  else .fail
def Txt.g (T : Txt) (call : Nat → List RV → Sto → R RV) : G := ⟨call, T.globs, T.init, T.eqf, T.sub, T.wf⟩
def callN (T : Txt) : Nat → Nat → List RV → Sto → R RV
  | 0, _, _, _ => .fail
  | n + 1, f, vs, S => match T.fds[f]? with
    | some fd => runF (T.g (callN T n)) fd vs S
    | none => .fail
end MI
set_option linter.all false
set_option Elab.async false
set_option maxRecDepth 100000
set_option maxHeartbeats 1000000
namespace MI
open PySem PySem.Spec PyProof.Rows L2
/-- what a text's classes are in the model: their addresses, their fields in order -/
structure CT where
  adr : Nat → Addr
  nms : Nat → List Str
/-- a tuple that is tracked off the cells, or written -/
def TupAt (K : PySem.W.Frag) (as : List Addr) (H : Hp) (a : Addr) (vs : List V) : Prop :=
  (a ∉ as ∧ H a = some (.tup vs)) ∨ ∃ (o : Obj) (its : Array Value) (n : Nat), K.lookup a = some o ∧ o.cls = .type "tuple" ∧ o.data = .seq its n ∧ its.size ≤ sizeLine ∧ Vals vs its.toList
theorem TupAt.sq {K as H a vs} (h : TupAt K as H a vs) : SqT K H a vs := by
  rcases h with ⟨_, h⟩ | h
  · exact SqT.of h
  · exact .inr h
/-- a list that is only read -/
def RoAt (K : PySem.W.Frag) (as : List Addr) (H : Hp) (a : Addr) (xs : List V) : Prop :=
  (a ∉ as ∧ H a = some (.lst xs)) ∨ (a ∉ as ∧ ∃ o, H a = some (.frz o (.lst xs))) ∨
    ∃ (o : Obj) (its : Array Value) (n : Nat), K.lookup a = some o ∧ o.cls = .type "list" ∧ o.dict = none ∧ o.data = .seq its n ∧ its.size ≤ sizeLine ∧ Vals xs its.toList
theorem RoAt.sq {K as H a vs} (h : RoAt K as H a vs) : SqL K H a vs := by
  rcases h with ⟨_, h⟩ | ⟨_, o, h⟩ | h
  · exact SqL.of h
  · exact .inl (.inr ⟨o, h⟩)
  · exact .inr h
mutual
def rel (K : PySem.W.Frag) (ct : CT) (as : List Addr) (H : Hp) : D → V → Prop
  | .non, v => v = .non
  | .bl b, v => v = .bl b
  | .int i, v => v = .int i
  | .str x, v => v = .str ⟨x.toArray⟩
  | .tup ds, v => ∃ a vs, v = .ref a ∧ TupAt K as H a vs ∧ rels K ct as H ds vs
  | .lst ds, v => ∃ a vs, v = .ref a ∧ a ∉ as ∧ H a = some (.lst vs) ∧ rels K ct as H ds vs
  | .obj c ds, v => ∃ a dx fs, v = .ref a ∧ a ∉ as ∧ H a = some (.ins (ct.adr c) dx fs) ∧ fs.map (·.1) = (ct.nms c).take ds.length ∧ rels K ct as H ds (fs.map (·.2))
  | .exc _ _, _ => False
  | .dic, v => ∃ a, v = .ref a ∧ a ∉ as ∧ H a = some (.dT [])
  | .ro ds, v => ∃ a vs, v = .ref a ∧ RoAt K as H a vs ∧ rels K ct as H ds vs
def rels (K : PySem.W.Frag) (ct : CT) (as : List Addr) (H : Hp) : List D → List V → Prop
  | [], vs => vs = []
  | d :: ds, vs => ∃ v r, vs = v :: r ∧ rel K ct as H d v ∧ rels K ct as H ds r
end
/-- what is tracked off the cells stays -/
def Keep (as : List Addr) (H H' : Hp) : Prop := ∀ a o, a ∉ as → H a = some o → H' a = some o
theorem Keep.refl {as H} : Keep as H H := fun _ _ _ h => h
theorem Keep.trans {as as' H H1 H2} (k : Keep as H H1) (k' : Keep as' H1 H2) (h : ∀ a ∈ as', a ∈ as ∨ H a = none) : Keep as H H2 := fun a o n e => k' a o (fun z => (h a z).elim n fun q => by rw [q] at e; cases e) (k a o n e)
theorem Keep.tr {as H H1 H2} (k : Keep as H H1) (k' : Keep as H1 H2) : Keep as H H2 := fun a o n e => k' a o n (k a o n e)
theorem Keep.free {as H H' a} (k : Keep as H H') (n : a ∉ as) (h : H' a = none) : H a = none := by
  cases e : H a with
  | none => rfl
  | some o => rw [k a o n e] at h; cases h
theorem Keep.new {as H p o} (h : H p = none) : Keep as H (upd H p o) := fun a u _ e => by rw [upd_ne (ne_of_none e h)]; exact e
theorem Keep.at {as H p o} (h : p ∈ as) : Keep as H (upd H p o) := fun a u n e => by
  rw [upd_ne (b := a) (a := p) (by rintro rfl; exact n h)]; exact e
theorem nas {as as' : List Addr} {H : Hp} {a : Addr} {o : HO} (n : a ∉ as) (e : H a = some o) (h : ∀ a ∈ as', a ∈ as ∨ H a = none) : a ∉ as' := fun z => by
  rcases h a z with q | q
  · exact n q
  · rw [q] at e; cases e
section
variable {K : PySem.W.Frag} {ct : CT} {as as' : List Addr} {H H' : Hp}
theorem TupAt.mono {a vs} (k : Keep as H H') (h : ∀ a ∈ as', a ∈ as ∨ H a = none) (t : TupAt K as H a vs) : TupAt K as' H' a vs := by
  rcases t with ⟨n, e⟩ | w
  · exact .inl ⟨nas n e h, k a _ n e⟩
  · exact .inr w
theorem RoAt.mono {a vs} (k : Keep as H H') (h : ∀ a ∈ as', a ∈ as ∨ H a = none) (t : RoAt K as H a vs) : RoAt K as' H' a vs := by
  rcases t with ⟨n, e⟩ | ⟨n, o, e⟩ | w
  · exact .inl ⟨nas n e h, k a _ n e⟩
  · exact .inr (.inl ⟨nas n e h, o, k a _ n e⟩)
  · exact .inr (.inr w)
mutual
theorem rel.mono (k : Keep as H H') (h : ∀ a ∈ as', a ∈ as ∨ H a = none) : ∀ {d : D} {v : V}, rel K ct as H d v → rel K ct as' H' d v
  | .non, _, r => r
  | .bl _, _, r => r
  | .int _, _, r => r
  | .str _, _, r => r
  | .tup ds, v, r => by
    unfold rel at r ⊢
    obtain ⟨a, vs, e, t, q⟩ := r
    exact ⟨a, vs, e, t.mono k h, rels.mono k h q⟩
  | .lst ds, v, r => by
    unfold rel at r ⊢
    obtain ⟨a, vs, e, n, t, q⟩ := r
    exact ⟨a, vs, e, nas n t h, k a _ n t, rels.mono k h q⟩
  | .obj c ds, v, r => by
    unfold rel at r ⊢
    obtain ⟨a, dx, fs, e, n, t, z, q⟩ := r
    exact ⟨a, dx, fs, e, nas n t h, k a _ n t, z, rels.mono k h q⟩
  | .exc _ _, _, r => by unfold rel at r; exact r.elim
  | .dic, v, r => by
    unfold rel at r ⊢
    obtain ⟨a, e, n, t⟩ := r
    exact ⟨a, e, nas n t h, k a _ n t⟩
  | .ro ds, v, r => by
    unfold rel at r ⊢
    obtain ⟨a, vs, e, t, q⟩ := r
    exact ⟨a, vs, e, t.mono k h, rels.mono k h q⟩
theorem rels.mono (k : Keep as H H') (h : ∀ a ∈ as', a ∈ as ∨ H a = none) : ∀ {ds : List D} {vs : List V}, rels K ct as H ds vs → rels K ct as' H' ds vs
  | [], _, r => r
  | d :: ds, vs, r => by
    unfold rels at r ⊢
    obtain ⟨v, q, e, r1, r2⟩ := r
    exact ⟨v, q, e, rel.mono k h r1, rels.mono k h r2⟩
end
theorem rel.keep {d v} (k : Keep as H H') (r : rel K ct as H d v) : rel K ct as H' d v := r.mono k fun _ h => .inl h
theorem rels.keep {d v} (k : Keep as H H') (r : rels K ct as H d v) : rels K ct as H' d v := r.mono k fun _ h => .inl h
theorem rel.sub {d v} (h : ∀ a ∈ as', a ∈ as) (r : rel K ct as H d v) : rel K ct as' H d v := r.mono .refl fun a z => .inl (h a z)
theorem rels.sub {d v} (h : ∀ a ∈ as', a ∈ as) (r : rels K ct as H d v) : rels K ct as' H d v := r.mono .refl fun a z => .inl (h a z)
theorem rels.length : ∀ {ds : List D} {vs : List V}, rels K ct as H ds vs → ds.length = vs.length
  | [], _, r => by unfold rels at r; rw [r]; rfl
  | d :: ds, vs, r => by
    unfold rels at r
    obtain ⟨v, q, e, _, r2⟩ := r
    rw [e, List.length_cons, List.length_cons, rels.length r2]
theorem rels.get : ∀ {ds : List D} {vs : List V} {i : Nat} {d : D}, rels K ct as H ds vs → ds[i]? = some d → ∃ v, vs[i]? = some v ∧ rel K ct as H d v
  | [], _, _, _, _, e => by simp at e
  | x :: ds, vs, i, d, r, e => by
    unfold rels at r
    obtain ⟨v, q, rfl, r1, r2⟩ := r
    cases i with
    | zero => simp at e; subst e; exact ⟨v, rfl, r1⟩
    | succ i => simpa using rels.get r2 (by simpa using e)
theorem rels.cons {d ds v vs} (r1 : rel K ct as H d v) (r2 : rels K ct as H ds vs) : rels K ct as H (d :: ds) (v :: vs) := by
  unfold rels; exact ⟨v, vs, rfl, r1, r2⟩
theorem rels.nil : rels K ct as H [] [] := by unfold rels; rfl
theorem rels.append : ∀ {ds es : List D} {vs ws : List V}, rels K ct as H ds vs → rels K ct as H es ws → rels K ct as H (ds ++ es) (vs ++ ws)
  | [], _, _, _, r, q => by unfold rels at r; rw [r]; exact q
  | d :: ds, _, _, _, r, q => by
    unfold rels at r
    obtain ⟨v, z, rfl, r1, r2⟩ := r
    exact rels.cons r1 (rels.append r2 q)
theorem rels.of_get : ∀ {ds : List D} {vs : List V}, ds.length = vs.length → (∀ (i : Nat) (d : D) (v : V), ds[i]? = some d → vs[i]? = some v → rel K ct as H d v) → rels K ct as H ds vs
  | [], [], _, _ => rels.nil
  | [], _ :: _, e, _ => by simp at e
  | _ :: _, [], e, _ => by simp at e
  | d :: ds, v :: vs, e, h => rels.cons (h 0 d v rfl rfl) (rels.of_get (by simpa using e) fun i d v h1 h2 => h (i + 1) d v (by simpa using h1) (by simpa using h2))
theorem rels.set {ds vs i d v} (r : rels K ct as H ds vs) (q : rel K ct as H d v) : rels K ct as H (ds.set i d) (vs.set i v) := by
  refine rels.of_get (by simp [r.length]) fun j x y h1 h2 => ?_
  by_cases e : i = j
  · subst e
    rw [List.getElem?_set] at h1 h2
    simp only [if_true, ite_true] at h1 h2
    split at h1
    · split at h2
      · cases h1; cases h2; exact q
      · cases h2
    · cases h1
  · rw [List.getElem?_set_ne e] at h1 h2
    obtain ⟨z, h3, h4⟩ := r.get h1
    rw [h2] at h3; cases h3; exact h4
theorem rels.drop : ∀ {ds : List D} {vs : List V} (n : Nat), rels K ct as H ds vs → rels K ct as H (ds.drop n) (vs.drop n)
  | _, _, 0, r => r
  | [], _, n + 1, r => by unfold rels at r; rw [r]; exact rels.nil
  | d :: ds, _, n + 1, r => by
    unfold rels at r
    obtain ⟨v, z, rfl, r1, r2⟩ := r
    exact rels.drop n r2
theorem rels.take : ∀ {ds : List D} {vs : List V} (n : Nat), rels K ct as H ds vs → rels K ct as H (ds.take n) (vs.take n)
  | _, _, 0, r => rels.nil
  | [], _, n + 1, r => by unfold rels at r; rw [r]; exact rels.nil
  | d :: ds, _, n + 1, r => by
    unfold rels at r
    obtain ⟨v, z, rfl, r1, r2⟩ := r
    exact rels.cons r1 (rels.take n r2)
theorem rels.reverse : ∀ {ds : List D} {vs : List V}, rels K ct as H ds vs → rels K ct as H ds.reverse vs.reverse
  | [], _, r => by unfold rels at r; rw [r]; exact rels.nil
  | d :: ds, _, r => by
    unfold rels at r
    obtain ⟨v, z, rfl, r1, r2⟩ := r
    rw [List.reverse_cons, List.reverse_cons]
    exact rels.append (rels.reverse r2) (rels.cons r1 rels.nil)
theorem rels.eraseIdx {ds vs} (n : Nat) (r : rels K ct as H ds vs) : rels K ct as H (ds.eraseIdx n) (vs.eraseIdx n) := by
  rw [List.eraseIdx_eq_take_drop_succ, List.eraseIdx_eq_take_drop_succ]
  exact rels.append (r.take n) (r.drop (n + 1))
end
end MI
set_option linter.all false
set_option Elab.async false
set_option maxRecDepth 100000
set_option maxHeartbeats 1000000
namespace MI
open PySem PySem.Spec PyProof.Rows L2
def keysOf : List D → Option (List Key)
  | [] => some []
  | .int i :: r => (keysOf r).map (Sum.inl i :: ·)
  | _ => none
/-- a dict whose keys are tuples of ints -/
def drel (K : PySem.W.Frag) (ct : CT) (as : List Addr) (H : Hp) (kvs : List (D × D)) (ws : List (List Key × V)) : Prop :=
  Paired (fun (p : D × D) (q : List Key × V) => (∃ ds, p.1 = .tup ds ∧ keysOf ds = some q.1) ∧ rel K ct as H p.2 q.2) kvs ws
def crel (K : PySem.W.Frag) (ct : CT) (as : List Addr) (H : Hp) : Cell → Addr → Prop
  | .lst ds, a => ∃ vs, H a = some (.lst vs) ∧ rels K ct as H ds vs
  | .dict kvs, a => ∃ ws, H a = some (.dT ws) ∧ drel K ct as H kvs ws
  | .inst c ds, a => ∃ dx fs, H a = some (.ins (ct.adr c) dx fs) ∧ fs.map (·.1) = (ct.nms c).take ds.length ∧ rels K ct as H ds (fs.map (·.2))
structure SRel (K : PySem.W.Frag) (ct : CT) (as : List Addr) (H : Hp) (S : Sto) : Prop where
  nd : as.Nodup
  len : as.length = S.length
  cell : ∀ (i : Nat) (c : Cell) (a : Addr), S[i]? = some c → as[i]? = some a → crel K ct as H c a
def vrel (K : PySem.W.Frag) (ct : CT) (as : List Addr) (H : Hp) : RV → V → Prop
  | .d d, v => rel K ct as H d v
  | .r n, v => ∃ a, as[n]? = some a ∧ v = .ref a
  | .new _, _ => False
/-- how a value comes out, from the entry heap H -/
def Res (K : PySem.W.Frag) (ct : CT) (as : List Addr) (H : Hp) (rv : RV) (S' : Sto) (v : V) (H' : Hp) : Prop := Keep as H H' ∧ match rv with
  | .new c => ∃ a, v = .ref a ∧ H a = none ∧ SRel K ct (as ++ [a]) H' (S' ++ [c])
  | rv => SRel K ct as H' S' ∧ vrel K ct as H' rv v
/-- an error that is in the air: its class, its own dict -/
def xrel (K : PySem.W.Frag) (ct : CT) (as : List Addr) (H : Hp) (c : Nat) (fs : List D) (cls : Value) (d : Option Addr) : Prop :=
  cls = .ref (ct.adr c) ∧ (fs = [] ∨ ∃ dd kvs vs, d = some dd ∧ dd ∉ as ∧ H dd = some (.xd kvs) ∧ rels K ct as H fs vs ∧ ∀ (k : Nat) (nm : Str) (v : V), (ct.nms c)[k]? = some nm → vs[k]? = some v → kvs.lookup nm = some v)
def XOut (K : PySem.W.Frag) (ct : CT) (as : List Addr) (H : Hp) (W : WX) (σ : L2.St) (c : Nat) (fs : List D) (S' : Sto) : Prop :=
  ∀ cls d H', Keep as H H' → SRel K ct as H' S' → xrel K ct as H' c fs cls d → W cls d σ H'
def Good {α : Type} (K : PySem.W.Frag) (ct : CT) (W : WX) (as : List Addr) (m : R α) (H : Hp) (σ : L2.St) (q : α → Sto → Prop) : Prop := match m with
  | .ok a S' => q a S'
  | .exc c fs S' => XOut K ct as H W σ c fs S'
  | .fail => False
/-- the end Q is reached by each way that the value may come out -/
def ResQ (K : PySem.W.Frag) (ct : CT) (as : List Addr) (H : Hp) (Q : VK) : RV → Sto → Prop := fun rv S' => ∀ v H', Res K ct as H rv S' v H' → Q v H'
section
variable {K : PySem.W.Frag} {ct : CT} {as as' : List Addr} {H H' H1 : Hp} {W : WX} {σ : L2.St} {S S' : Sto}
theorem drel.mono (k : Keep as H H') (h : ∀ a ∈ as', a ∈ as ∨ H a = none) {kvs : List (D × D)} {ws : List (List Key × V)} (r : drel K ct as H kvs ws) : drel K ct as' H' kvs ws :=
  Paired.mapP r fun p q z => ⟨z.1, z.2.mono k h⟩
/-- an item of the store where its object stands as it was -/
theorem crel.mono {c : Cell} {a : Addr} (k : Keep as H H') (h : ∀ a ∈ as', a ∈ as ∨ H a = none) (e : H' a = H a) (r : crel K ct as H c a) : crel K ct as' H' c a := by
  cases c with
  | lst ds => obtain ⟨vs, q, z⟩ := r; exact ⟨vs, e.trans q, z.mono k h⟩
  | dict kvs => obtain ⟨ws, q, z⟩ := r; exact ⟨ws, e.trans q, z.mono k h⟩
  | inst c ds => obtain ⟨dx, fs, q, n, z⟩ := r; exact ⟨dx, fs, e.trans q, n, z.mono k h⟩
theorem SRel.get {n : Nat} {c : Cell} (r : SRel K ct as H S) (h : S[n]? = some c) : ∃ a, as[n]? = some a ∧ crel K ct as H c a := by
  have hn : n < as.length := by rw [r.len]; exact (List.getElem?_eq_some_iff.mp h).1
  exact ⟨as[n], List.getElem?_eq_getElem hn, r.cell n c _ h (List.getElem?_eq_getElem hn)⟩
theorem crel.there {c : Cell} {a : Addr} (r : crel K ct as H c a) : ∃ o, H a = some o := by
  cases c with
  | lst ds => obtain ⟨vs, q, z⟩ := r; exact ⟨_, q⟩
  | dict kvs => obtain ⟨ws, q, z⟩ := r; exact ⟨_, q⟩
  | inst c ds => obtain ⟨dx, fs, q, n, z⟩ := r; exact ⟨_, q⟩
theorem SRel.lt {n : Nat} {a : Addr} (r : SRel K ct as H S) (h : as[n]? = some a) : ∃ c, S[n]? = some c := by
  have hn : n < S.length := by rw [← r.len]; exact (List.getElem?_eq_some_iff.mp h).1
  exact ⟨S[n], List.getElem?_eq_getElem hn⟩
theorem SRel.off {p : Addr} (r : SRel K ct as H S) (hp : H p = none) : p ∉ as := fun z => by
  obtain ⟨n, hn⟩ := List.getElem?_of_mem z
  obtain ⟨c, hc⟩ := r.lt hn
  obtain ⟨o, ho⟩ := (r.cell n c p hc hn).there
  rw [hp] at ho; cases ho
/-- a new tracked object beside the cells -/
theorem SRel.fresh {p : Addr} {o : HO} (r : SRel K ct as H S) (hp : H p = none) : SRel K ct as (upd H p o) S :=
  have hn := r.off hp
  ⟨r.nd, r.len, fun i c a h1 h2 => (r.cell i c a h1 h2).mono (.new hp) (fun _ h => .inl h) (upd_ne fun z => hn (z ▸ List.mem_of_getElem? h2))⟩
/-- .. the heap grows, the cells' objects stand -/
theorem SRel.grow (r : SRel K ct as H S) (k : Keep as H H') (h : ∀ a ∈ as, H' a = H a) : SRel K ct as H' S :=
  ⟨r.nd, r.len, fun i c a h1 h2 => (r.cell i c a h1 h2).mono k (fun _ h => .inl h) (h a (List.mem_of_getElem? h2))⟩
/-- a new cell at the store's end -/
theorem SRel.push {p : Addr} {c : Cell} (r : SRel K ct as H S) (hp : H p = none) (k : Keep as H H') (h : ∀ a ∈ as, H' a = H a) (new : crel K ct (as ++ [p]) H' c p) : SRel K ct (as ++ [p]) H' (S ++ [c]) := by
  have hn := r.off hp
  have fr : ∀ a ∈ as ++ [p], a ∈ as ∨ H a = none := fun a z => by
    rcases List.mem_append.mp z with z | z
    · exact .inl z
    · exact .inr (by rw [List.mem_singleton.mp z]; exact hp)
  refine ⟨?_, by simp [r.len], fun i d a h1 h2 => ?_⟩
  · rw [List.nodup_append]
    exact ⟨r.nd, by simp, fun x hx y hy e => hn (by rw [List.mem_singleton] at hy; rw [← hy, ← e]; exact hx)⟩
  · by_cases hi : i < as.length
    · rw [List.getElem?_append_left hi] at h2
      rw [List.getElem?_append_left (by rw [← r.len]; exact hi)] at h1
      exact (r.cell i d a h1 h2).mono k fr (h a (List.mem_of_getElem? h2))
    · have e : i = as.length := by
        have := (List.getElem?_eq_some_iff.mp h2).1
        simp at this; omega
      subst e
      rw [List.getElem?_append_right (Nat.le_refl _)] at h2
      rw [r.len, List.getElem?_append_right (Nat.le_refl _)] at h1
      simp at h1 h2
      rw [← h1, ← h2]
      exact new
/-- cells' contents with fewer addresses to stay off -/
theorem crel.sub {c : Cell} {a : Addr} (h : ∀ a ∈ as', a ∈ as) (r : crel K ct as H c a) : crel K ct as' H c a := r.mono .refl (fun a z => .inl (h a z)) rfl
theorem SRel.take (n : Nat) (r : SRel K ct as H S) : SRel K ct (as.take n) H (S.take n) := by
  refine ⟨r.nd.sublist (List.take_sublist n as), by simp [r.len], fun i c a h1 h2 => ?_⟩
  rw [List.getElem?_take] at h1 h2
  by_cases hi : i < n
  · rw [if_pos hi] at h1 h2
    exact (r.cell i c a h1 h2).sub fun x hx => List.mem_of_mem_take hx
  · rw [if_neg hi] at h1
    cases h1
theorem SRel.pop {p : Addr} {c : Cell} (r : SRel K ct (as ++ [p]) H (S ++ [c])) : SRel K ct as H S := by
  have l : as.length = S.length := by have := r.len; simpa using this
  have h := r.take as.length
  rw [List.take_left] at h
  rw [l, List.take_left] at h
  exact h
theorem SRel.last {p : Addr} {c : Cell} (r : SRel K ct (as ++ [p]) H (S ++ [c])) : p ∉ as ∧ crel K ct (as ++ [p]) H c p := by
  have l : as.length = S.length := by have := r.len; simpa using this
  refine ⟨fun z => ?_, r.cell as.length c p (by rw [l]; simp) (by simp)⟩
  have := r.nd
  rw [List.nodup_append] at this
  exact this.2.2 p z p (by simp) rfl
theorem vrel.mono {rv : RV} {v : V} (k : Keep as H H') (h : ∀ a ∈ as', a ∈ as ∨ H a = none) (hp : as <+: as') (r : vrel K ct as H rv v) : vrel K ct as' H' rv v := by
  cases rv with
  | d d => exact rel.mono k h r
  | r n =>
    obtain ⟨a, e, q⟩ := r
    obtain ⟨t, ht⟩ := hp
    exact ⟨a, by rw [← ht, List.getElem?_append_left (List.getElem?_eq_some_iff.mp e).1]; exact e, q⟩
  | new c => exact r.elim
theorem vrel.keep {rv : RV} {v : V} (k : Keep as H H') (r : vrel K ct as H rv v) : vrel K ct as H' rv v := r.mono k (fun _ h => .inl h) (List.prefix_refl _)
/-- what is let go is data -/
theorem frozen {p : Addr} {c : Cell} {d : D} (r : SRel K ct (as ++ [p]) H (S ++ [c])) (e : c.freeze = some d) : rel K ct as H d (.ref p) := by
  obtain ⟨n, q⟩ := r.last
  have sub : ∀ a ∈ as, a ∈ as ++ [p] := fun a z => List.mem_append_left _ z
  cases c with
  | lst ds =>
    obtain ⟨vs, h1, h2⟩ := q
    cases e
    unfold rel
    exact ⟨p, vs, rfl, n, h1, h2.sub sub⟩
  | dict kvs =>
    cases kvs with
    | nil =>
      obtain ⟨ws, h1, h2⟩ := q
      cases h2
      cases e
      unfold rel
      exact ⟨p, rfl, n, h1⟩
    | cons _ _ => cases e
  | inst c ds =>
    obtain ⟨dx, fs, h1, h2, h3⟩ := q
    cases e
    unfold rel
    exact ⟨p, dx, fs, rfl, n, h1, h2, h3.sub sub⟩
/-- a value is handed on -/
theorem Res.hand {rv rv' : RV} {v : V} (r : Res K ct as H rv S v H') (e : rv.hand = some rv') : Keep as H H' ∧ SRel K ct as H' S ∧ vrel K ct as H' rv' v := by
  obtain ⟨k, r⟩ := r
  cases rv with
  | d d => cases e; exact ⟨k, r⟩
  | r n => cases e; exact ⟨k, r⟩
  | new c =>
    obtain ⟨a, rfl, hn, q⟩ := r
    have e' : c.freeze.map RV.d = some rv' := e
    cases ef : c.freeze with
    | none => rw [ef] at e'; cases e'
    | some d =>
      rw [ef] at e'
      cases e'
      exact ⟨k, q.pop, frozen q ef⟩
theorem Res.of {rv : RV} {v : V} (k : Keep as H H') (s : SRel K ct as H' S) (r : vrel K ct as H' rv v) : Res K ct as H rv S v H' := by
  cases rv with
  | d d => exact ⟨k, s, r⟩
  | r n => exact ⟨k, s, r⟩
  | new c => exact r.elim
theorem Res.trans {rv : RV} {v : V} {H2 : Hp} (k : Keep as H H1) (r : Res K ct as H1 rv S v H2) : Res K ct as H rv S v H2 := by
  obtain ⟨k', r⟩ := r
  refine ⟨k.tr k', ?_⟩
  cases rv with
  | d d => exact r
  | r n => exact r
  | new c =>
    obtain ⟨a, e, hn, q⟩ := r
    exact ⟨a, e, k.free q.last.1 hn, q⟩
theorem XOut.mono {c : Nat} {fs : List D} (k : Keep as H H1) (x : XOut K ct as H W σ c fs S) : XOut K ct as H1 W σ c fs S := fun cls d H' k' s r => x cls d H' (k.tr k') s r
theorem Good.mono {α : Type} {m : R α} {q : α → Sto → Prop} (k : Keep as H H1) (g : Good K ct W as m H σ q) : Good K ct W as m H1 σ q := by
  cases m with
  | ok a S => exact g
  | exc c fs S => exact XOut.mono k g
  | fail => exact g
theorem ResQ.mono {Q : VK} {rv : RV} (k : Keep as H H1) (r : ResQ K ct as H Q rv S) : ResQ K ct as H1 Q rv S := fun v H' z => r v H' (z.trans k)
/-- a way that goes on -/
theorem Good.bind {α β : Type} {m : R α} {f : α → Sto → R β} {q : β → Sto → Prop} (g : Good K ct W as (m.bind f) H σ q) : Good K ct W as m H σ fun a S => Good K ct W as (f a S) H σ q := by
  cases m with
  | ok a S => exact g
  | exc c fs S => exact g
  | fail => exact g
theorem Good.imp {α : Type} {m : R α} {q q' : α → Sto → Prop} (g : Good K ct W as m H σ q) (h : ∀ a S, q a S → q' a S) : Good K ct W as m H σ q' := by
  cases m with
  | ok a S => exact h a S g
  | exc c fs S => exact g
  | fail => exact g
theorem Good.of {α : Type} {o : Option α} {q : α → Sto → Prop} (g : Good K ct W as (R.of o S) H σ q) : ∃ a, o = some a ∧ q a S := by
  cases o with
  | none => exact g.elim
  | some a => exact ⟨a, rfl, g⟩
end
end MI
set_option linter.all false
set_option Elab.async false
set_option maxRecDepth 100000
set_option maxHeartbeats 1000000
namespace MI
open PySem PySem.Spec PyProof.Rows L2
/-! ### readings that say just what is wanted -/
def wpE (X : Cx) (e : Expr) : TE := fun σ H Q => ∀ (pins : List (Addr × Obj)) (s : Shared), Inv X pins σ H s → wpAny (model X.prog X.w) X.A (eval e X.env) (EP X pins σ Q) X.xe s
def wpT (X : Cx) (e : Expr) : TT := fun σ H Q => ∀ (pins : List (Addr × Obj)) (s : Shared), Inv X pins σ H s → wpAny (model X.prog X.w) X.A (isTrue e X.env (eval e X.env)) (TP X pins σ Q) X.xe s
def wpA (X : Cx) (es : List Expr) : TA := fun σ H Q => ∀ (pos : Pos) (pins : List (Addr × Obj)) (s : Shared), Inv X pins σ H s → wpAny (model X.prog X.w) X.A (spliced (backTo pos (starEach es X.env))) (AP X pins σ Q) X.xe s
def wpS (X : Cx) (st : Stmt) : TS := fun D σ H => ∀ (pins : List (Addr × Obj)) (s : Shared), Inv X pins σ H s → wpAny (model X.prog X.w) X.A (exec st X.env) (SP X pins D) X.xe s
def wpSs (X : Cx) (st : List Stmt) : TS := fun D σ H => ∀ (pins : List (Addr × Obj)) (s : Shared), Inv X pins σ H s → wpAny (model X.prog X.w) X.A (execs st X.env) (SP X pins D) X.xe s
def wpOp (X : Cx) (f : Value → Value → Sem Value) : R2 := fun x y H Q => ∀ (pins : List (Addr × Obj)) (s : Shared) (σ : L2.St) (v u : Value), Inv X pins σ H s → RelV x v → RelV y u → wpAny (model X.prog X.w) X.A (f v u) (EP X pins σ Q) X.xe s
def wpC (X : Cx) (f : Value) : List V → Hp → VK → Prop := fun xs H Q => ∀ (pins : List (Addr × Obj)) (s : Shared) (σ : L2.St) (us : List Value), Inv X pins σ H s → Vals xs us → wpAny (model X.prog X.w) X.A (call f us) (EP X pins σ Q) X.xe s
theorem pe_wp {X : Cx} {e : Expr} : PE X e (wpE X e) := ⟨fun pins s _ _ _ I h => h pins s I⟩
theorem pt_wp {X : Cx} {e : Expr} : PT X e (wpT X e) := ⟨fun pins s _ _ _ I h => h pins s I⟩
theorem pa_wp {X : Cx} {es : List Expr} : PA X es (wpA X es) := ⟨fun pos pins s _ _ _ I h => h pos pins s I⟩
theorem ps_wp {X : Cx} {st : Stmt} : PS X st (wpS X st) := ⟨fun pins s _ _ _ I h => h pins s I⟩
theorem pss_wp {X : Cx} {st : List Stmt} : PSs X st (wpSs X st) := ⟨fun pins s _ _ _ I h => h pins s I⟩
theorem op_wp {X : Cx} {f : Value → Value → Sem Value} : OpR X f (wpOp X f) := fun pins s σ H x y v u Q I rx ry h => h pins s σ v u I rx ry
theorem call_wp {X : Cx} {f : Value} : CallR X f (wpC X f) := fun pins s σ H xs us Q I r h => h pins s σ us I r
theorem _root_.L2.PE.wp {X : Cx} {e : Expr} {t : TE} (h : PE X e t) {σ H Q} (q : t σ H Q) : wpE X e σ H Q := fun pins s I => h.run pins s σ H Q I q
theorem _root_.L2.PT.wp {X : Cx} {e : Expr} {t : TT} (h : PT X e t) {σ H Q} (q : t σ H Q) : wpT X e σ H Q := fun pins s I => h.run pins s σ H Q I q
theorem _root_.L2.PA.wp {X : Cx} {e : List Expr} {t : TA} (h : PA X e t) {σ H Q} (q : t σ H Q) : wpA X e σ H Q := fun pos pins s I => h.run pos pins s σ H Q I q
theorem _root_.L2.PS.wp {X : Cx} {e : Stmt} {t : TS} (h : PS X e t) {σ H D} (q : t D σ H) : wpS X e D σ H := fun pins s I => h.run pins s σ H D I q
theorem _root_.L2.PSs.wp {X : Cx} {e : List Stmt} {t : TS} (h : PSs X e t) {σ H D} (q : t D σ H) : wpSs X e D σ H := fun pins s I => h.run pins s σ H D I q
theorem _root_.L2.OpR.wp {X : Cx} {f : Value → Value → Sem Value} {r : R2} (h : OpR X f r) {x y H Q} (q : r x y H Q) : wpOp X f x y H Q := fun pins s σ v u I rx ry => h pins s σ H x y v u Q I rx ry q
theorem _root_.L2.CallR.wp {X : Cx} {f : Value} {r : List V → Hp → VK → Prop} (h : CallR X f r) {xs H Q} (q : r xs H Q) : wpC X f xs H Q := fun pins s σ us I r' => h pins s σ H xs us Q I r' q
theorem wpE.imp {X : Cx} {e : Expr} {σ H} {Q Q' : VK} (h : wpE X e σ H Q) (q : ∀ v H', Q v H' → Q' v H') : wpE X e σ H Q' := fun pins s I => thn (h pins s I) fun u s' ⟨v, H', I', r, z⟩ => ⟨v, H', I', r, q v H' z⟩
/-- the sizes that the abstract heap may have -/
def Sz (H : Hp) : Prop := (∀ a xs, H a = some (.lst xs) → xs.length ≤ sizeLine) ∧ ∀ a xs, H a = some (.tup xs) → xs.length ≤ sizeLine
theorem _root_.L2.Inv.sizes {X : Cx} {pins σ H s} (I : Inv X pins σ H s) : Sz H := ⟨fun a xs h => (I.hok a _ h).1, fun a xs h => (I.hok a _ h).1⟩
theorem wpE.size {X : Cx} {e : Expr} {σ H} {Q : VK} (h : wpE X e σ H fun v H' => Sz H' → Q v H') : wpE X e σ H Q := fun pins s I => thn (h pins s I) fun u s' ⟨v, H', I', r, z⟩ => ⟨v, H', I', r, z I'.sizes⟩
theorem wpE.pre {X : Cx} {e : Expr} {σ H} {Q : VK} (h : Sz H → wpE X e σ H Q) : wpE X e σ H Q := fun pins s I => h I.sizes pins s I
theorem wpOp.pre {X : Cx} {f} {x y H} {Q : VK} (h : Sz H → wpOp X f x y H Q) : wpOp X f x y H Q := fun pins s σ v u I r r' => h I.sizes pins s σ v u I r r'
theorem wpC.pre {X : Cx} {f} {xs H} {Q : VK} (h : Sz H → wpC X f xs H Q) : wpC X f xs H Q := fun pins s σ us I r => h I.sizes pins s σ us I r
/-! ### what stands in the slots -/
structure EnvOk (K : PySem.W.Frag) (ct : CT) (as : List Addr) (H : Hp) (ρ : Rho) (σ : L2.St) : Prop where
  len : ρ.length = σ.length
  at_ : ∀ (i : Nat) (rv : RV), ρ[i]? = some (some rv) → ∃ v, σ[i]? = some (some v) ∧ vrel K ct as H rv v
section
variable {K : PySem.W.Frag} {ct : CT} {as as' : List Addr} {H H' : Hp} {ρ : Rho} {σ : L2.St}
theorem EnvOk.mono (e : EnvOk K ct as H ρ σ) (k : Keep as H H') (h : ∀ a ∈ as', a ∈ as ∨ H a = none) (hp : as <+: as') : EnvOk K ct as' H' ρ σ :=
  ⟨e.len, fun i rv z => let ⟨v, h1, h2⟩ := e.at_ i rv z; ⟨v, h1, h2.mono k h hp⟩⟩
theorem EnvOk.keep (e : EnvOk K ct as H ρ σ) (k : Keep as H H') : EnvOk K ct as H' ρ σ := e.mono k (fun _ h => .inl h) (List.prefix_refl _)
theorem EnvOk.set {i : Nat} {rv : RV} {v : V} (e : EnvOk K ct as H ρ σ) (r : vrel K ct as H rv v) : EnvOk K ct as H (ρ.set i (some rv)) (σ.set i (some v)) := by
  refine ⟨by simp [e.len], fun j x z => ?_⟩
  by_cases hj : i = j
  · subst hj
    by_cases hi : i < ρ.length
    · rw [List.getElem?_set_self hi] at z
      cases z
      exact ⟨v, List.getElem?_set_self (by rw [← e.len]; exact hi), r⟩
    · rw [List.getElem?_eq_none (by simpa using hi)] at z
      cases z
  · rw [List.getElem?_set_ne hj] at z
    obtain ⟨w, h1, h2⟩ := e.at_ j x z
    exact ⟨w, by rw [List.getElem?_set_ne hj]; exact h1, h2⟩
theorem EnvOk.clear {i : Nat} {o : Option V} (e : EnvOk K ct as H ρ σ) : EnvOk K ct as H (ρ.set i none) (σ.set i o) := by
  refine ⟨by simp [e.len], fun j x z => ?_⟩
  by_cases hj : i = j
  · subst hj
    rw [List.getElem?_set] at z
    simp at z
  · rw [List.getElem?_set_ne hj] at z
    obtain ⟨w, h1, h2⟩ := e.at_ j x z
    exact ⟨w, by rw [List.getElem?_set_ne hj]; exact h1, h2⟩
theorem EnvOk.wipe (e : EnvOk K ct as H ρ σ) : ∀ vs : List Nat, EnvOk K ct as H (MI.wipe ρ vs) (L2.wipe σ vs)
  | [] => e
  | v :: vs => (EnvOk.wipe e vs).clear
end
/-! ### the text in the model -/
/-- the built-in names that a text may use -/
def biNames : List Str := ["len", "sum", "min", "max", "all", "any", "sorted", "tuple", "list", "int", "str", "abs", "set", "isinstance", "range", "enumerate", "zip", "bool", "dict", "ValueError"]
structure Info where
  T : Txt
  ct : CT
  fnm : List (Option Str)
  fad : Nat → Addr
  ffd : Nat → FuncData
  fps : Nat → List Str
  cnm : List Str
  gnm : List Str
  obs : List Nat
  mes : List (Nat × Nat × Str)
  prs : List (Nat × Nat × Str)
  e0 : List Nat
  e1 : List Nat
def Info.g (I : Info) (n : Nat) : G := I.T.g (callN I.T n)
def vrels (K : PySem.W.Frag) (ct : CT) (as : List Addr) (H : Hp) : List RV → List V → Prop
  | [], vs => vs = []
  | x :: xs, vs => ∃ v r, vs = v :: r ∧ vrel K ct as H x v ∧ vrels K ct as H xs r
/-- the promise of the f-th def: the mirror machine's end -/
def spM (I : Info) (K : PySem.W.Frag) (n f : Nat) : Sp := fun vs H Q E => ∃ (rvs : List RV) (S : Sto) (as : List Addr), vrels K I.ct as H rvs vs ∧ SRel K I.ct as H S ∧
  match callN I.T n f rvs S with
  | .ok rv S' => ResQ K I.ct as H Q rv S'
  | .exc c fs S' => ∀ cls d H', Keep as H H' → SRel K I.ct as H' S' → xrel K I.ct as H' c fs cls d → E cls d H'
  | .fail => False
/-- an error's own __init__: its fields, by the parameters -/
def spX (ct : CT) (c : Nat) : Sp := fun vs H Q _ => ∃ (a : Addr) (ws : List V), vs = .ref a :: ws ∧ ws.length = (ct.nms c).length ∧ H a = some (exo a (ct.adr c) none) ∧ ∀ (H' : Hp) (dx : Addr) (fs : List (Str × V)), H dx = none → dx ≠ a → H' a = some (exo a (ct.adr c) (some dx)) → H' dx = some (exd dx fs) →
  (∀ b, b ≠ a → b ≠ dx → H' b = H b) → (∀ (k : Nat) (nm : Str) (v : V), (ct.nms c)[k]? = some nm → ws[k]? = some v → fs.lookup nm = some v) → Q .non H'
structure Wf (I : Info) (P : Program) (w : World) (K : PySem.W.Frag) (mg : Str → Option Value) (base : Heap) (n : Nat) : Prop where
  fns : ∀ (f : Nat) (fd : Fd), I.T.fds[f]? = some fd → FnOk P w K mg base (L2.CX P w) (2 * n + 1) (I.fad f) (I.ffd f) (I.fps f) (spM I K n f)
  bnd : ∀ (f : Nat) (fd : Fd), I.T.fds[f]? = some fd → Binds K (I.ffd f) (I.fps f) []
  gl : ∀ (f : Nat) (x : Str), I.fnm[f]? = some (some x) → mg x = some (.ref (I.fad f)) ∧ PySem.W.keepIn K (.ref (I.fad f)) = true
  bi : ∀ x ∈ biNames, mg x = none
  e1 : ∀ c ∈ I.e1, OexC K (I.ct.adr c) ∧ ∃ fI fd ps, PySem.W.findIn K (.ref (I.ct.adr c)) "__init__" = some (some (.ref fI)) ∧ PySem.W.typeIn K (.ref fI) = some (.type "function") ∧ FnOk P w K mg base (L2.CX P w) 1 fI fd ps (spX I.ct c) ∧ Binds K fd ps []
  co : ∀ (i : Nat) (x : Str), I.gnm[i]? = some x → ∃ d u v, I.T.globs[i]? = some d ∧ mg x = some u ∧ RelV v u ∧ ∀ as H, rel K I.ct as H d v
/-- the types by name -/
def tyNames : List String := ["int", "bool", "str", "list", "tuple", "dict"]
def tagNames : List String := ["NoneType", "bool", "int", "str", "list", "tuple", "dict"]
structure Ws (I : Info) (K : PySem.W.Frag) (mg : Str → Option Value) : Prop where
  cls : ∀ c ∈ I.obs, Cls K (I.ct.adr c)
  nat : ∀ c ∈ I.obs, ∀ f ∈ I.ct.nms c, NoAttr K (I.ct.adr c) f
  nnd : ∀ c, (I.ct.nms c).Nodup ∧ (I.ct.nms c).length < 1000
  mkc : ∀ c ∈ I.obs, ∀ f, I.T.init[c]? = some f → Mk K (I.ct.adr c) (I.fad f)
  cn : ∀ (c : Nat) (x : Str), I.cnm[c]? = some x → mg x = some (.ref (I.ct.adr c))
  me : ∀ (c f : Nat) (m : Str), (c, f, m) ∈ I.mes → c ∈ I.obs ∧ Meth K (I.ct.adr c) m (I.fad f) ∧ m ∉ I.ct.nms c
  e0 : ∀ c ∈ I.e0, PySem.W.excIn K (I.ct.adr c) [.type "ValueError", .type "Exception", .type "BaseException", .type "object"] "ValueError.__new__" = true ∧ PySem.W.keepIn K (.ref (I.ct.adr c)) = true ∧ PySem.W.subIn K (.ref (I.ct.adr c)) (.type "BaseException") = some true ∧
    PySem.W.typeIn K (.ref (I.ct.adr c)) = some (.type "type")
  ty : ∀ c ∈ I.obs, PySem.W.findIn K (.ref (I.ct.adr c)) "__class__" = some (some (.builtin "object.__class__")) ∧ PySem.W.specialIn K (.builtin "object.__class__") "__get__" = some (some (.builtin "getset_descriptor.__get__")) ∧
    PySem.W.takesIn K (.builtin "object.__class__") = some true ∧ PySem.W.mroIn K (I.ct.adr c) (.type "object") = some true
  kct : ∀ c ∈ I.obs, ∀ s ∈ tyNames, PySem.W.kitOne K (.ref (I.ct.adr c)) (.type s) = some false
  kcc : ∀ c ∈ I.obs, ∀ d ∈ I.obs, PySem.W.kitOne K (.ref (I.ct.adr c)) (.ref (I.ct.adr d)) = some (c == d)
  ktc : ∀ c ∈ I.obs, ∀ s ∈ tagNames, PySem.W.kitOne K (.type s) (.ref (I.ct.adr c)) = some false
  pr : ∀ (c f : Nat) (m : Str), (c, f, m) ∈ I.prs → c ∈ I.obs ∧ ∃ p, PropOf K (I.ct.adr c) m p (I.fad f)
  xx : ∀ c, c < I.T.init.length → I.T.sub c c = true → ∀ e ∈ I.e0 ++ I.e1, PySem.W.exmOne K (.ref (I.ct.adr c)) (.ref (I.ct.adr e)) = some (I.T.sub c e)
/-- a context in which the text runs: n the depth of calls that is left, W the wish about errors, N the names, sc the scope -/
structure Cn (I : Info) (n : Nat) (N : List Str) (sc : Scope) (X : Cx) (W : WX) : Prop where
  wf : Wf I X.prog X.w X.K X.mg X.base n
  ws : Ws I X.K X.mg
  hN : X.N = N
  hsc : X.env.scope = sc
  calm : X.calm = true
  nd : N.Nodup
  tk : Takes X W
  room : Room (2 * n + 2) X.A
section
variable (I : Info) (n : Nat) (N : List Str) (sc : Scope)
/-- an expression is as the mirror says -/
def SoundE (e : Expr) (E : MI.E) : Prop := ∀ (X : Cx) (W : WX), Cn I n N sc X W → ∀ ρ S as σ H Q, EnvOk X.K I.ct as H ρ σ → SRel X.K I.ct as H S →
  Good X.K I.ct W as (ev (I.g n) E ρ S) H σ (ResQ X.K I.ct as H Q) → wpE X e σ H Q
def SoundT (e : Expr) (m : Rho → Sto → R Bool) : Prop := ∀ (X : Cx) (W : WX), Cn I n N sc X W → ∀ ρ S as σ H (Q : Bool → Hp → Prop), EnvOk X.K I.ct as H ρ σ → SRel X.K I.ct as H S →
  Good X.K I.ct W as (m ρ S) H σ (fun b S' => ∀ H', Keep as H H' → SRel X.K I.ct as H' S' → Q b H') → wpT X e σ H Q
def SoundA (es : List Expr) (Es : MI.Es) : Prop := ∀ (X : Cx) (W : WX), Cn I n N sc X W → ∀ ρ S as σ H (Q : List V → Hp → Prop), EnvOk X.K I.ct as H ρ σ → SRel X.K I.ct as H S →
  Good X.K I.ct W as (evh (I.g n) Es ρ S) H σ (fun rvs S' => ∀ vs H', Keep as H H' → SRel X.K I.ct as H' S' → vrels X.K I.ct as H' rvs vs → Q vs H') → wpA X es σ H Q
end
section
variable {I : Info} {n : Nat} {N : List Str} {sc : Scope} {X : Cx} {W : WX} {ρ : Rho} {S : Sto} {as : List Addr} {σ : L2.St} {H : Hp} {Q : VK} {a b c : Expr} {A B C : E} {pos : Pos}
theorem Keep.good {K : PySem.W.Frag} {ct : CT} {α : Type} {m : R α} {q : α → Sto → Prop} {H1 : Hp} (k : Keep as H H1) (g : Good K ct W as m H σ q) : Good K ct W as m H1 σ q := Good.mono k g
/-- a part, then: what follows stands at the heap behind it -/
theorem SoundE.then_ (s : SoundE I n N sc a A) (hc : Cn I n N sc X W) {α : Type} {f : RV → Sto → R α} {q : α → Sto → Prop} {R1 : VK} (he : EnvOk X.K I.ct as H ρ σ) (hs : SRel X.K I.ct as H S)
    (g : Good X.K I.ct W as ((ev (I.g n) A ρ S).bind f) H σ q) (h : ∀ rv S1 v H1, Res X.K I.ct as H rv S1 v H1 → Good X.K I.ct W as (f rv S1) H1 σ q → R1 v H1) : wpE X a σ H R1 :=
  s X W hc ρ S as σ H R1 he hs (g.bind.imp fun rv S1 g1 v H1 r => h rv S1 v H1 r (Good.mono r.1 g1))
/-- .. where the part's value is handed on -/
theorem SoundE.hand_ (s : SoundE I n N sc a A) (hc : Cn I n N sc X W) {α : Type} {f : RV → Sto → R α} {q : α → Sto → Prop} {R1 : VK} (he : EnvOk X.K I.ct as H ρ σ) (hs : SRel X.K I.ct as H S)
    (g : Good X.K I.ct W as ((ev (I.g n) A ρ S).bind fun x S => (R.of x.hand S).bind f) H σ q)
    (h : ∀ rv S1 v H1, Keep as H H1 → SRel X.K I.ct as H1 S1 → vrel X.K I.ct as H1 rv v → Good X.K I.ct W as (f rv S1) H1 σ q → R1 v H1) : wpE X a σ H R1 :=
  s.then_ hc he hs g fun rv S1 v H1 r g1 => by
    obtain ⟨rv', e, g2⟩ := Good.of g1.bind
    obtain ⟨k, s1, r1⟩ := r.hand e
    exact h rv' S1 v H1 k s1 r1 g2
/-- the end of an expression -/
theorem Good.end_ {K : PySem.W.Frag} {ct : CT} {rv : RV} {v : V} {S : Sto} {H0 : Hp} (g : Good K ct W as (R.ok rv S) H σ (ResQ K ct as H0 Q)) (r : Res K ct as H0 rv S v H) : Q v H := g v H r
theorem ResQ.back {K : PySem.W.Frag} {ct : CT} {m : R RV} {H0 H1 : Hp} (k : Keep as H0 H1) (g : Good K ct W as m H1 σ (ResQ K ct as H0 Q)) : Good K ct W as m H1 σ (ResQ K ct as H1 Q) := g.imp fun _ _ q => ResQ.mono k q
/-! ### names, constants -/
def visB (sc : Scope) (x : Str) : Bool := match sc.names.lookup x with
  | some .local => true
  | some .cell => true
  | some .free => true
  | _ => false
theorem vis_of {sc : Scope} {x : Str} (h : visB sc x = true) : Vis sc x := by
  unfold visB at h
  unfold Vis
  split at h
  · rename_i q; exact .inl q
  · rename_i q; exact .inr (.inl q)
  · rename_i q; exact .inr (.inr q)
  · cases h
theorem sE_var {i : Nat} {x : Str} (hi : N[i]? = some x) (hv : visB sc x = true) (hd : (x == ("__debug__" : Str)) = false) (hcd : (x == ("__classdict__" : Str)) = false) : SoundE I n N sc (.Name x pos) (.var i) := by
  intro X W hc ρ S as σ H Q he hs g
  refine PE.wp (pe_var (i := i) (by rw [hc.hN]; exact hi) (by rw [hc.hsc]; exact vis_of hv) hd hcd) ?_
  unfold ev at g
  split at g
  · rename_i v hv
    obtain ⟨u, h1, h2⟩ := he.at_ i v hv
    exact ⟨u, h1, g.end_ (Res.of .refl hs h2)⟩
  · exact g.elim
def kD : Const → Option D
  | .none => some .non
  | .bool b => some (.bl b)
  | .int i => some (.int i)
  | .str x => some (.str x.cps.toList)
  | _ => none
theorem sE_k {k : Const} {d : D} {j : Nat} (h : kD k = some d) : SoundE I n N sc (.Constant k j pos) (.k d) := by
  intro X W hc ρ S as σ H Q he hs g
  have fin : ∀ v, rel X.K I.ct as H d v → Q v H := fun v r => by
    unfold ev at g
    exact g.end_ (Res.of .refl hs r)
  cases k <;> first
    | (cases h; done)
    | (cases h; exact PE.wp pe_int (fin _ (by unfold rel; rfl)))
    | (cases h; exact PE.wp pe_bl (fin _ (by unfold rel; rfl)))
    | (cases h; exact PE.wp pe_non (fin _ (by unfold rel; rfl)))
    | (cases h; exact PE.wp pe_str (fin _ (by unfold rel; simp)))
theorem sE_glob {i : Nat} {x : Str} (hi : I.gnm[i]? = some x) (hv : sc.names.lookup x = some .globalImplicit) (hd : (x == ("__debug__" : Str)) = false) : SoundE I n N sc (.Name x pos) (.glob i) := by
  intro X W hc ρ S as σ H Q he hs g
  obtain ⟨d, u, v, e, hm, r, rl⟩ := hc.wf.co i x hi
  refine PE.wp (pe_glob (X := X) (v := v) (by show X.env.scope.names.lookup x = _; rw [hc.hsc]; exact hv) hm r hd) ?_
  unfold ev at g
  obtain ⟨rv, e2, q⟩ := Good.of g
  have e3 : I.T.globs[i]?.map RV.d = some rv := e2
  rw [e] at e3
  cases e3
  exact q v H (Res.of .refl hs (rl as H))
end
end MI
set_option linter.all false
set_option Elab.async false
set_option maxRecDepth 100000
set_option maxHeartbeats 1000000
namespace MI
open PySem PySem.Spec PyProof.Rows L2
/-! ### what is seen at a value: data, a list by what stands at its place now -/
def srel (K : PySem.W.Frag) (ct : CT) (as : List Addr) (H : Hp) : D → V → Prop
  | .lst ds, v => ∃ a vs, v = .ref a ∧ H a = some (.lst vs) ∧ rels K ct as H ds vs
  | .obj c ds, v => ∃ a dx fs, v = .ref a ∧ H a = some (.ins (ct.adr c) dx fs) ∧ fs.map (·.1) = (ct.nms c).take ds.length ∧ rels K ct as H ds (fs.map (·.2))
  | d, v => rel K ct as H d v
section
variable {K : PySem.W.Frag} {ct : CT} {as : List Addr} {H H' : Hp} {S : Sto}
theorem rel.s {d : D} {v : V} (r : rel K ct as H d v) : srel K ct as H d v := by
  cases d <;> first | exact r | skip
  · unfold rel at r
    obtain ⟨a, vs, e, _, h, q⟩ := r
    exact ⟨a, vs, e, h, q⟩
  · unfold rel at r
    obtain ⟨a, dx, fs, e, _, h, n, q⟩ := r
    exact ⟨a, dx, fs, e, h, n, q⟩
theorem seen {rv : RV} {v : V} {d : D} (s : SRel K ct as H S) (r : vrel K ct as H rv v) (e : rv.see S = some d) : srel K ct as H d v := by
  cases rv with
  | d x => cases e; exact rel.s r
  | new c => exact r.elim
  | r n =>
    obtain ⟨a, ha, rfl⟩ := r
    unfold RV.see at e
    split at e
    · rename_i q; cases q
    · rename_i q; cases q
    · rename_i m q
      cases q
      split at e
      · rename_i xs hx
        cases e
        obtain ⟨vs, h1, h2⟩ := s.cell n _ a hx ha
        exact ⟨a, vs, rfl, h1, h2⟩
      · cases e
/-! ### as the library's data -/
mutual
def D.py : D → PyData
  | .non => .none
  | .bl b => .bool b
  | .int i => .int i
  | .str x => .str ⟨x.toArray⟩
  | .tup xs => .tuple (D.pys xs)
  | .lst xs => .list (D.pys xs)
  | _ => .none
def D.pys : List D → List PyData
  | [] => []
  | x :: xs => x.py :: D.pys xs
end
theorem pys_map : ∀ xs : List D, D.pys xs = xs.map D.py
  | [] => rfl
  | x :: xs => by unfold D.pys; rw [pys_map xs]; rfl
mutual
theorem plain_py : ∀ (d : D) (n : Nat), d.plain n = true → d.py.canLay0 = true ∧ d.py.depth ≤ n
  | .non, n, _ => ⟨rfl, Nat.zero_le _⟩
  | .bl _, n, _ => ⟨rfl, Nat.zero_le _⟩
  | .int _, n, _ => ⟨rfl, Nat.zero_le _⟩
  | .str x, n, h => by
    refine ⟨?_, Nat.zero_le _⟩
    unfold D.plain cpOk at h
    show PySem.PyData.strOk _ = true
    unfold PySem.PyData.strOk
    simpa using h
  | .tup xs, 0, h => by unfold D.plain at h; cases h
  | .tup xs, n + 1, h => by
    have h' : D.plains xs n = true := by unfold D.plain at h; exact h
    obtain ⟨h1, h2⟩ := plains_py xs n h'
    refine ⟨?_, ?_⟩
    · unfold D.py PyData.canLay0; exact h1
    · unfold D.py PyData.depth; omega
  | .lst xs, 0, h => by unfold D.plain at h; cases h
  | .lst xs, n + 1, h => by
    have h' : D.plains xs n = true := by unfold D.plain at h; exact h
    obtain ⟨h1, h2⟩ := plains_py xs n h'
    refine ⟨?_, ?_⟩
    · unfold D.py PyData.canLay0; exact h1
    · unfold D.py PyData.depth; omega
  | .obj _ _, n, h => by unfold D.plain at h; cases h
  | .exc _ _, n, h => by unfold D.plain at h; cases h
  | .dic, n, h => by unfold D.plain at h; cases h
  | .ro _, n, h => by unfold D.plain at h; cases h
theorem plains_py : ∀ (ds : List D) (n : Nat), D.plains ds n = true → PyData.canLayAll0 (D.pys ds) = true ∧ PyData.depthAll (D.pys ds) ≤ n
  | [], n, _ => ⟨rfl, Nat.zero_le _⟩
  | d :: ds, n, h => by
    unfold D.plains at h
    rw [Bool.and_eq_true] at h
    obtain ⟨h1, h2⟩ := plain_py d n h.1
    obtain ⟨h3, h4⟩ := plains_py ds n h.2
    refine ⟨?_, ?_⟩
    · unfold D.pys PyData.canLayAll0; rw [h1, h3]; rfl
    · unfold D.pys PyData.depthAll; omega
end
theorem plain_shaped {d : D} (h : d.plain 60 = true) : SeqAt.shaped d.py = true := by
  obtain ⟨h1, h2⟩ := plain_py d 60 h
  unfold SeqAt.shaped
  rw [h1, Bool.true_and, decide_eq_true_eq]
  omega
mutual
theorem rel.dp : ∀ (d : D) (n : Nat) (v : V), d.plain n = true → rel K ct as H d v → Dp K H v d.py
  | .non, n, v, _, r => by unfold rel at r; rw [r]; exact .non
  | .bl _, n, v, _, r => by unfold rel at r; rw [r]; exact .bl _
  | .int _, n, v, _, r => by unfold rel at r; rw [r]; exact .int _
  | .str x, n, v, _, r => by unfold rel at r; rw [r]; exact .str _
  | .tup xs, 0, v, h, r => by unfold D.plain at h; cases h
  | .tup xs, n + 1, v, h, r => by
    have h' : D.plains xs n = true := by unfold D.plain at h; exact h
    unfold rel at r
    obtain ⟨a, vs, rfl, t, q⟩ := r
    unfold D.py
    exact .tup t.sq (rels.dp xs n vs h' q)
  | .lst xs, 0, v, h, r => by unfold D.plain at h; cases h
  | .lst xs, n + 1, v, h, r => by
    have h' : D.plains xs n = true := by unfold D.plain at h; exact h
    unfold rel at r
    obtain ⟨a, vs, rfl, _, t, q⟩ := r
    unfold D.py
    exact .lst (SqL.of t) (rels.dp xs n vs h' q)
  | .obj _ _, n, v, h, _ => by unfold D.plain at h; cases h
  | .exc _ _, n, v, h, _ => by unfold D.plain at h; cases h
  | .dic, n, v, h, _ => by unfold D.plain at h; cases h
  | .ro _, n, v, h, _ => by unfold D.plain at h; cases h
theorem rels.dp : ∀ (ds : List D) (n : Nat) (vs : List V), D.plains ds n = true → rels K ct as H ds vs → DpAll K H vs (D.pys ds)
  | [], n, vs, _, r => by unfold rels at r; rw [r]; unfold D.pys; exact .nil
  | d :: ds, n, vs, h, r => by
    unfold D.plains at h
    rw [Bool.and_eq_true] at h
    unfold rels at r
    obtain ⟨v, q, rfl, r1, r2⟩ := r
    unfold D.pys
    exact .cons (rel.dp d n v h.1 r1) (rels.dp ds n q h.2 r2)
end
theorem srel.dp : ∀ {d : D} {v : V}, d.plain 60 = true → srel K ct as H d v → Dp K H v d.py
  | .non, v, h, r => rel.dp (K := K) (ct := ct) (as := as) .non 60 v h r
  | .bl b, v, h, r => rel.dp (K := K) (ct := ct) (as := as) (.bl b) 60 v h r
  | .int b, v, h, r => rel.dp (K := K) (ct := ct) (as := as) (.int b) 60 v h r
  | .str b, v, h, r => rel.dp (K := K) (ct := ct) (as := as) (.str b) 60 v h r
  | .tup b, v, h, r => rel.dp (K := K) (ct := ct) (as := as) (.tup b) 60 v h r
  | .lst xs, v, h, r => by
    have h' : D.plains xs 59 = true := by unfold D.plain at h; exact h
    obtain ⟨a, vs, rfl, t, q⟩ := r
    unfold D.py
    exact .lst (SqL.of t) (rels.dp xs 59 vs h' q)
  | .obj _ _, v, h, _ => by unfold D.plain at h; cases h
  | .exc _ _, v, h, _ => by unfold D.plain at h; cases h
  | .dic, v, h, _ => by unfold D.plain at h; cases h
  | .ro _, v, h, _ => by unfold D.plain at h; cases h
theorem str_inj {x y : List Nat} : ((⟨x.toArray⟩ : Str) == ⟨y.toArray⟩) = (x == y) := by
  by_cases e : x = y
  · subst e; simp
  · have : (⟨x.toArray⟩ : Str) ≠ ⟨y.toArray⟩ := fun q => e (by injection q with q; simpa using congrArg Array.toList q)
    rw [beq_eq_false_iff_ne.mpr this, beq_eq_false_iff_ne.mpr e]
mutual
theorem eqv_py : ∀ (d e : D) (n m : Nat), d.plain n = true → e.plain m = true → PyData.eqv d.py e.py = d.eqv e
  | .tup xs, .tup ys, 0, _, h, _ => by unfold D.plain at h; cases h
  | .tup xs, .tup ys, n + 1, 0, _, h => by unfold D.plain at h; cases h
  | .tup xs, .tup ys, n + 1, m + 1, h1, h2 => by
    unfold D.py PyData.eqv D.eqv
    exact eqvs_py xs ys n m (by unfold D.plain at h1; exact h1) (by unfold D.plain at h2; exact h2)
  | .lst xs, .lst ys, 0, _, h, _ => by unfold D.plain at h; cases h
  | .lst xs, .lst ys, n + 1, 0, _, h => by unfold D.plain at h; cases h
  | .lst xs, .lst ys, n + 1, m + 1, h1, h2 => by
    unfold D.py PyData.eqv D.eqv
    exact eqvs_py xs ys n m (by unfold D.plain at h1; exact h1) (by unfold D.plain at h2; exact h2)
  | .str x, .str y, _, _, _, _ => by unfold D.py PyData.eqv D.eqv; exact str_inj
  | .obj _ _, _, _, _, h, _ => by unfold D.plain at h; cases h
  | .exc _ _, _, _, _, h, _ => by unfold D.plain at h; cases h
  | .dic, _, _, _, h, _ => by unfold D.plain at h; cases h
  | .ro _, _, _, _, h, _ => by unfold D.plain at h; cases h
  | _, .obj _ _, _, _, _, h => by unfold D.plain at h; cases h
  | _, .exc _ _, _, _, _, h => by unfold D.plain at h; cases h
  | _, .dic, _, _, _, h => by unfold D.plain at h; cases h
  | _, .ro _, _, _, _, h => by unfold D.plain at h; cases h
  | .non, .non, _, _, _, _ => rfl
  | .non, .bl _, _, _, _, _ => rfl
  | .non, .int _, _, _, _, _ => rfl
  | .non, .str _, _, _, _, _ => rfl
  | .non, .tup _, _, _, _, _ => rfl
  | .non, .lst _, _, _, _, _ => rfl
  | .bl _, .non, _, _, _, _ => rfl
  | .bl _, .bl _, _, _, _, _ => rfl
  | .bl _, .int _, _, _, _, _ => rfl
  | .bl _, .str _, _, _, _, _ => rfl
  | .bl _, .tup _, _, _, _, _ => rfl
  | .bl _, .lst _, _, _, _, _ => rfl
  | .int _, .non, _, _, _, _ => rfl
  | .int _, .bl _, _, _, _, _ => rfl
  | .int _, .int _, _, _, _, _ => rfl
  | .int _, .str _, _, _, _, _ => rfl
  | .int _, .tup _, _, _, _, _ => rfl
  | .int _, .lst _, _, _, _, _ => rfl
  | .str _, .non, _, _, _, _ => rfl
  | .str _, .bl _, _, _, _, _ => rfl
  | .str _, .int _, _, _, _, _ => rfl
  | .str _, .tup _, _, _, _, _ => rfl
  | .str _, .lst _, _, _, _, _ => rfl
  | .tup _, .non, _, _, _, _ => rfl
  | .tup _, .bl _, _, _, _, _ => rfl
  | .tup _, .int _, _, _, _, _ => rfl
  | .tup _, .str _, _, _, _, _ => rfl
  | .tup _, .lst _, _, _, _, _ => rfl
  | .lst _, .non, _, _, _, _ => rfl
  | .lst _, .bl _, _, _, _, _ => rfl
  | .lst _, .int _, _, _, _, _ => rfl
  | .lst _, .str _, _, _, _, _ => rfl
  | .lst _, .tup _, _, _, _, _ => rfl
theorem eqvs_py : ∀ (ds es : List D) (n m : Nat), D.plains ds n = true → D.plains es m = true → PyData.eqvAll (D.pys ds) (D.pys es) = D.eqvs ds es
  | [], [], _, _, _, _ => rfl
  | [], _ :: _, _, _, _, _ => rfl
  | _ :: _, [], _, _, _, _ => rfl
  | d :: ds, e :: es, n, m, h1, h2 => by
    unfold D.plains at h1 h2
    rw [Bool.and_eq_true] at h1 h2
    unfold D.pys PyData.eqvAll D.eqvs
    rw [eqv_py d e n m h1.1 h2.1, eqvs_py ds es n m h1.2 h2.2]
end
end
/-! ### tuples of ints -/
theorem ints_of {ds : List D} {ns : List Int} : ints? ds = some ns → ds = ns.map .int := by
  induction ds generalizing ns with
  | nil => intro h; cases h; rfl
  | cons d ds ih =>
    intro h
    cases d <;> unfold ints? at h <;> first | (cases h; done) | skip
    cases q : ints? ds with
    | none => rw [q] at h; cases h
    | some ms => rw [q] at h; cases h; rw [ih q]; rfl
theorem rels_ints {K : PySem.W.Frag} {ct : CT} {as : List Addr} {H : Hp} : ∀ {ns : List Int} {vs : List V}, rels K ct as H (ns.map D.int) vs → vs = ns.map V.int
  | [], vs, r => by unfold rels at r; exact r
  | n :: ns, vs, r => by
    simp only [List.map_cons] at r
    unfold rels at r
    obtain ⟨v, q, rfl, r1, r2⟩ := r
    unfold rel at r1
    rw [r1, rels_ints r2]; rfl
theorem lts_ints : ∀ (ns ms : List Int), D.lts (ns.map .int) (ms.map .int) = HT.lexLt ns ms
  | [], [] => rfl
  | [], _ :: _ => rfl
  | _ :: _, [] => rfl
  | n :: ns, m :: ms => by
    simp only [List.map_cons]
    unfold D.lts HT.lexLt
    rw [lts_ints ns ms]
    show (if (n == m) = true then _ else _) = _
    by_cases e : n = m
    · rw [if_pos (by simpa using e), if_pos e]
    · rw [if_neg (by simpa using e), if_neg e]; rfl
theorem lim_eq : lim = sizeLine := by rw [sizeLine_eq]; rfl
/-! ### operators -/
section
variable {X : Cx} {as : List Addr} {H : Hp} {S : Sto} {ct : CT} {Q : VK} {x y : V} {dx dy : D} {rv : RV}
/-- data that comes out, the heap as it was -/
theorem out_d {K : PySem.W.Frag} {d : D} {v : V} (s : SRel K ct as H S) (q : ResQ K ct as H Q (.d d) S) (r : rel K ct as H d v) : Q v H := q v H (Res.of .refl s r)
/-- a new tuple comes out -/
theorem out_tup {K : PySem.W.Frag} {ds : List D} {vs : List V} {p : Addr} (s : SRel K ct as H S) (q : ResQ K ct as H Q (.d (.tup ds)) S) (r : rels K ct as H ds vs) (hp : H p = none) : Q (.ref p) (upd H p (.tup vs)) := by
  refine q _ _ (Res.of (.new hp) (s.fresh hp) ?_)
  show rel _ _ _ _ _ _
  unfold rel
  exact ⟨p, vs, rfl, .inl ⟨s.off hp, upd_same⟩, r.keep (.new hp)⟩
/-- a new list comes out -/
theorem out_new {K : PySem.W.Frag} {ds : List D} {vs : List V} {p : Addr} (s : SRel K ct as H S) (q : ResQ K ct as H Q (.new (.lst ds)) S) (r : rels K ct as H ds vs) (hp : H p = none) : Q (.ref p) (upd H p (.lst vs)) := by
  refine q _ _ ⟨.new hp, p, rfl, hp, s.push hp (.new hp) (fun a ha => upd_ne fun z => s.off hp (z ▸ ha)) ⟨vs, upd_same, ?_⟩⟩
  exact r.mono (.new hp) fun a ha => (List.mem_append.mp ha).imp_right fun z => by rw [List.mem_singleton.mp z]; exact hp
theorem sr_tup {K : PySem.W.Frag} {ds : List D} {v : V} (r : srel K ct as H (.tup ds) v) : ∃ a vs, v = .ref a ∧ SqT K H a vs ∧ rels K ct as H ds vs := by
  have r' : rel K ct as H (.tup ds) v := r
  unfold rel at r'
  obtain ⟨a, vs, e, t, q⟩ := r'
  exact ⟨a, vs, e, t.sq, q⟩
theorem sr_int {K : PySem.W.Frag} {i : Int} {v : V} (r : srel K ct as H (.int i) v) : v = .int i := by
  have r' : rel K ct as H (.int i) v := r
  unfold rel at r'
  exact r'
theorem sr_bl {K : PySem.W.Frag} {i : Bool} {v : V} (r : srel K ct as H (.bl i) v) : v = .bl i := by
  have r' : rel K ct as H (.bl i) v := r
  unfold rel at r'
  exact r'
theorem sr_str {K : PySem.W.Frag} {i : List Nat} {v : V} (r : srel K ct as H (.str i) v) : v = .str ⟨i.toArray⟩ := by
  have r' : rel K ct as H (.str i) v := r
  unfold rel at r'
  exact r'
theorem rl_int {K : PySem.W.Frag} {i : Int} : rel K ct as H (.int i) (.int i) := by unfold rel; rfl
theorem rl_bl {K : PySem.W.Frag} {i : Bool} : rel K ct as H (.bl i) (.bl i) := by unfold rel; rfl
theorem rl_str {K : PySem.W.Frag} {i : List Nat} : rel K ct as H (.str i) (.str ⟨i.toArray⟩) := by unfold rel; rfl
theorem rl_non {K : PySem.W.Frag} : rel K ct as H .non .non := by unfold rel; rfl
theorem add_ok (rx : srel X.K ct as H dx x) (ry : srel X.K ct as H dy y) (s : SRel X.K ct as H S) (e : addD dx dy = some rv) (q : ResQ X.K ct as H Q rv S) : wpOp X (binaryOp .Add) x y H Q := by
  unfold addD at e
  split at e
  · cases e
    rw [sr_int rx, sr_int ry]
    exact op_add.wp ⟨_, _, rfl, rfl, out_d s q rl_int⟩
  · split at e
    · rename_i i j hl
      cases e
      rw [sr_str rx, sr_str ry]
      refine op_add_str.wp ⟨_, _, rfl, rfl, ?_, ?_⟩
      · show i.toArray.size + j.toArray.size ≤ sizeLine
        rw [← lim_eq]; simpa using hl
      · have : (⟨i.toArray⟩ : Str) ++ ⟨j.toArray⟩ = ⟨(i ++ j).toArray⟩ := by
          show Str.mk (i.toArray ++ j.toArray) = _
          simp
        rw [this]
        exact out_d s q rl_str
    · cases e
  · split at e
    · rename_i i j hl
      cases e
      obtain ⟨a, vs, rfl, h1, r1⟩ := rx
      obtain ⟨b, ws, rfl, h2, r2⟩ := ry
      refine op_cat.wp ⟨a, b, vs, ws, rfl, rfl, h1, h2, by rw [← r1.length, ← r2.length, ← lim_eq]; exact hl, fun p hp => out_new s q (r1.append r2) hp⟩
    · cases e
  · split at e
    · rename_i i j hl
      cases e
      obtain ⟨a, vs, rfl, h1, r1⟩ := sr_tup rx
      obtain ⟨b, ws, rfl, h2, r2⟩ := sr_tup ry
      refine op_catA.wp ⟨a, b, vs, ws, rfl, rfl, h1, h2, by rw [← r1.length, ← r2.length, ← lim_eq]; exact hl, fun z => ?_, fun z z2 => ?_, fun z z2 p hp => out_tup s q (r1.append r2) hp⟩
      · subst z
        have : i = [] := List.eq_nil_of_length_eq_zero r1.length
        subst this
        exact out_d s q ry
      · subst z2
        have : j = [] := List.eq_nil_of_length_eq_zero r2.length
        subst this
        rw [List.append_nil] at q
        exact out_d s q rx
    · cases e
  · cases e
theorem ints2_ok {f : Value → Value → Sem Value} {m : Int → Int → Option RV} (h : ∀ i j, m i j = some rv → wpOp X f (.int i) (.int j) H Q) (rx : srel X.K ct as H dx x) (ry : srel X.K ct as H dy y) (e : ints2 m dx dy = some rv) : wpOp X f x y H Q := by
  unfold ints2 at e
  split at e
  · rw [sr_int rx, sr_int ry]; exact h _ _ e
  · cases e
theorem sub_ok (rx : srel X.K ct as H dx x) (ry : srel X.K ct as H dy y) (s : SRel X.K ct as H S) (e : opD .sub dx dy = some rv) (q : ResQ X.K ct as H Q rv S) : wpOp X (binaryOp .Sub) x y H Q :=
  ints2_ok (fun i j z => by cases z; exact op_sub.wp ⟨_, _, rfl, rfl, out_d s q rl_int⟩) rx ry e
theorem fdiv_ok (rx : srel X.K ct as H dx x) (ry : srel X.K ct as H dy y) (s : SRel X.K ct as H S) (e : opD .fdiv dx dy = some rv) (q : ResQ X.K ct as H Q rv S) : wpOp X (binaryOp .FloorDiv) x y H Q :=
  ints2_ok (fun i j z => by
    split at z
    · rename_i hz; cases z; exact op_fdiv.wp ⟨_, _, rfl, rfl, hz, out_d s q rl_int⟩
    · cases z) rx ry e
theorem mod_ok (rx : srel X.K ct as H dx x) (ry : srel X.K ct as H dy y) (s : SRel X.K ct as H S) (e : opD .mod dx dy = some rv) (q : ResQ X.K ct as H Q rv S) : wpOp X (binaryOp .Mod) x y H Q :=
  ints2_ok (fun i j z => by
    split at z
    · rename_i hz; cases z; exact op_mod.wp ⟨_, _, rfl, rfl, hz, out_d s q rl_int⟩
    · cases z) rx ry e
theorem pow_ok (rx : srel X.K ct as H dx x) (ry : srel X.K ct as H dy y) (s : SRel X.K ct as H S) (e : opD .pow dx dy = some rv) (q : ResQ X.K ct as H Q rv S) : wpOp X (binaryOp .Pow) x y H Q :=
  ints2_ok (fun i j z => by
    split at z
    · rename_i hz; cases z; exact op_pow.wp ⟨_, _, rfl, rfl, hz, out_d s q rl_int⟩
    · cases z) rx ry e
theorem gt_ok (rx : srel X.K ct as H dx x) (ry : srel X.K ct as H dy y) (s : SRel X.K ct as H S) (e : opD .gt dx dy = some rv) (q : ResQ X.K ct as H Q rv S) : wpOp X (compareOp .Gt) x y H Q :=
  ints2_ok (fun i j z => by cases z; exact op_gt.wp ⟨_, _, rfl, rfl, out_d s q rl_bl⟩) rx ry e
theorem ge_ok (rx : srel X.K ct as H dx x) (ry : srel X.K ct as H dy y) (s : SRel X.K ct as H S) (e : opD .ge dx dy = some rv) (q : ResQ X.K ct as H Q rv S) : wpOp X (compareOp .GtE) x y H Q :=
  ints2_ok (fun i j z => by cases z; exact op_ge.wp ⟨_, _, rfl, rfl, out_d s q rl_bl⟩) rx ry e
theorem eq_ok (hu : X.A.units + 64 < cLine) (rx : srel X.K ct as H dx x) (ry : srel X.K ct as H dy y) (s : SRel X.K ct as H S) (e : opD .eq dx dy = some rv) (q : ResQ X.K ct as H Q rv S) : wpOp X (compareOp .Eq) x y H Q := by
  have e : ((seqEq dx dy).map fun r => RV.d (.bl r)) = some rv := e
  unfold seqEq at e
  split at e
  · rename_i h
    cases e
    rw [Bool.and_eq_true] at h
    refine (op_eqD hu).wp ⟨_, _, rx.dp h.1, ry.dp h.2, plain_shaped h.1, plain_shaped h.2, ?_⟩
    rw [eqv_py _ _ _ _ h.1 h.2]
    exact out_d s q rl_bl
  · cases e
theorem ne_ok (hu : X.A.units + 64 < cLine) (rx : srel X.K ct as H dx x) (ry : srel X.K ct as H dy y) (s : SRel X.K ct as H S) (e : opD .ne dx dy = some rv) (q : ResQ X.K ct as H Q rv S) : wpOp X (compareOp .NotEq) x y H Q := by
  have e : ((seqEq dx dy).map fun r => RV.d (.bl (!r))) = some rv := e
  unfold seqEq at e
  split at e
  · rename_i h
    cases e
    rw [Bool.and_eq_true] at h
    refine (op_neD hu).wp ⟨_, _, rx.dp h.1, ry.dp h.2, plain_shaped h.1, plain_shaped h.2, ?_⟩
    rw [eqv_py _ _ _ _ h.1 h.2]
    exact out_d s q rl_bl
  · cases e
theorem rowsLt_of {xs ys : List D} {b : Bool} (e : rowsLt xs ys = some b) : ∃ ns ms, xs = ns.map .int ∧ ys = ms.map .int ∧ b = HT.lexLt ns ms := by
  unfold rowsLt at e
  split at e
  · rename_i ns ms h1 h2
    cases e
    have e1 := ints_of h1
    have e2 := ints_of h2
    exact ⟨ns, ms, e1, e2, by rw [e1, e2, lts_ints]⟩
  · cases e
theorem lt_ok (hu : X.A.units < cLine) (rx : srel X.K ct as H dx x) (ry : srel X.K ct as H dy y) (s : SRel X.K ct as H S) (e : opD .lt dx dy = some rv) (q : ResQ X.K ct as H Q rv S) : wpOp X (compareOp .Lt) x y H Q := by
  have e : ltD (fun i j => decide (i < j)) rowsLt dx dy = some rv := e
  unfold ltD at e
  split at e
  · cases e
    rw [sr_int rx, sr_int ry]
    exact op_lt.wp ⟨_, _, rfl, rfl, out_d s q rl_bl⟩
  · rename_i xs ys _
    cases h : rowsLt xs ys with
    | none => rw [h] at e; cases e
    | some b =>
      rw [h] at e; cases e
      obtain ⟨ns, ms, rfl, rfl, rfl⟩ := rowsLt_of h
      obtain ⟨a, vs, rfl, h1, r1⟩ := sr_tup rx
      obtain ⟨b, ws, rfl, h2, r2⟩ := sr_tup ry
      rw [rels_ints r1] at h1
      rw [rels_ints r2] at h2
      exact (op_ltT hu).wp ⟨a, b, ns, ms, rfl, rfl, h1, h2, out_d s q rl_bl⟩
  · cases e
def lexLeI : List Int → List Int → Bool
  | [], _ => true
  | _ :: _, [] => false
  | x :: xs, y :: ys => if x = y then lexLeI xs ys else decide (x ≤ y)
theorem lexLe_not : ∀ ns ms : List Int, lexLeI ns ms = !HT.lexLt ms ns
  | [], [] => rfl
  | [], _ :: _ => rfl
  | _ :: _, [] => rfl
  | n :: ns, m :: ms => by
    unfold lexLeI HT.lexLt
    by_cases e : n = m
    · subst e
      simp [lexLe_not ns ms]
    · rw [if_neg e, if_neg (Ne.symm e)]
      by_cases h : n < m
      · simp [h, Int.not_lt.mpr (Int.le_of_lt h), Int.le_of_lt h]
      · have : m < n := by omega
        simp [h, this]
theorem lexAt_le (ns ms : List Int) : ∀ (k i : Nat), i + k = min ns.length ms.length →
    Ob.lexAt (fun j => decide (ns.getD j 0 = ms.getD j 0)) (fun j => decide (ns.getD j 0 ≤ ms.getD j 0)) (decide (ns.length ≤ ms.length)) i k = lexLeI (ns.drop i) (ms.drop i)
  | 0, i, h => by
    rw [Ob.lexAt_zero]
    by_cases c : ns.length ≤ ms.length
    · have : i = ns.length := by omega
      rw [decide_eq_true c, this, List.drop_length]
      unfold lexLeI; rfl
    · have hi : i = ms.length := by omega
      rw [decide_eq_false c, hi, List.drop_length]
      cases e : ns.drop ms.length with
      | nil => have := congrArg List.length e; simp at this; omega
      | cons x r => unfold lexLeI; rfl
  | k + 1, i, h => by
    have h1 : i < ns.length := by omega
    have h2 : i < ms.length := by omega
    rw [Ob.lexAt_succ, lexAt_le ns ms k (i + 1) (by omega), List.drop_eq_getElem_cons h1, List.drop_eq_getElem_cons h2]
    have g1 : ns.getD i 0 = ns[i] := by simp [h1]
    have g2 : ms.getD i 0 = ms[i] := by simp [h2]
    simp only [g1, g2, decide_eq_true_eq]
    conv => rhs; unfold lexLeI
theorem le_ok (hu : X.A.units < cLine) (rx : srel X.K ct as H dx x) (ry : srel X.K ct as H dy y) (s : SRel X.K ct as H S) (e : opD .le dx dy = some rv) (q : ResQ X.K ct as H Q rv S) : wpOp X (compareOp .LtE) x y H Q := by
  have e : ltD (fun i j => decide (i ≤ j)) (fun xs ys => (rowsLt ys xs).map (!·)) dx dy = some rv := e
  unfold ltD at e
  split at e
  · cases e
    rw [sr_int rx, sr_int ry]
    exact op_le.wp ⟨_, _, rfl, rfl, out_d s q rl_bl⟩
  · rename_i xs ys _
    dsimp only at e
    cases h : rowsLt ys xs with
    | none => rw [h] at e; cases e
    | some b =>
      rw [h] at e; cases e
      obtain ⟨ns, ms, rfl, rfl, rfl⟩ := rowsLt_of h
      obtain ⟨a, vs, rfl, h1, r1⟩ := sr_tup rx
      obtain ⟨b, ws, rfl, h2, r2⟩ := sr_tup ry
      rw [rels_ints r1] at h1
      rw [rels_ints r2] at h2
      refine (op_leT hu).wp ⟨a, b, ms, ns, rfl, rfl, h1, h2, ?_⟩
      rw [lexAt_le ms ns _ 0 (by simp)]
      rw [List.drop_zero, List.drop_zero, lexLe_not]
      exact out_d s q rl_bl
  · cases e
theorem mul_ok (hT : ∀ (l : Addr) (k : Int) (xs : List V) (Q : VK), SqT X.K H l xs → xs ≠ [] → 1 ≤ k → k ≤ 64 → xs.length ≤ 64 → (k = 1 → Q (.ref l) H) → (k ≠ 1 → ∀ p, H p = none → Q (.ref p) (upd H p (.tup (List.replicate k.toNat xs).flatten))) → wpOp X (binaryOp .Mult) (.ref l) (.int k) H Q)
    (rx : srel X.K ct as H dx x) (ry : srel X.K ct as H dy y) (s : SRel X.K ct as H S) (e : mulD dx dy = some rv) (q : ResQ X.K ct as H Q rv S) : wpOp X (binaryOp .Mult) x y H Q := by
  unfold mulD at e
  split at e
  · split at e
    · rename_i hz
      cases e
      rw [sr_int rx, sr_int ry]
      refine op_mul.wp ⟨_, _, rfl, rfl, ?_, out_d s q rl_int⟩
      unfold small64 at hz
      simpa [CMul] using hz
    · cases e
  · split at e
    · rename_i xs j hz
      cases e
      obtain ⟨a, vs, rfl, h1, r1⟩ := sr_tup rx
      rw [sr_int ry]
      have rep : ∀ n : Nat, rels X.K ct as H (List.replicate n xs).flatten (List.replicate n vs).flatten := fun n => by
        induction n with
        | zero => exact rels.nil
        | succ n ih => rw [List.replicate_succ, List.replicate_succ, List.flatten_cons, List.flatten_cons]; exact r1.append ih
      have l := r1.length
      refine hT a j vs Q h1 (fun z => by subst z; simp at l; subst l; simp at hz) hz.1 hz.2.1 (by omega) (fun z => ?_) fun _ p hp => out_tup s q (rep _) hp
      subst z
      have : (List.replicate (1 : Int).toNat xs).flatten = xs := by simp
      rw [this] at q
      exact out_d s q rx
    · cases e
  · cases e
theorem wp_of_pre {f : Value → Value → Sem Value} (h : ∀ (pins : List (Addr × Obj)) (s : Shared) (σ : L2.St) (v u : Value), Inv X pins σ H s → RelV x v → RelV y u → wpAny (model X.prog X.w) X.A (f v u) (EP X pins σ Q) X.xe s) : wpOp X f x y H Q := h
/-- x in c, x not in c: neg tells which -/
theorem mem_ok (hu : X.A.units + 65 < cLine) {neg : Bool} {b : Bool} (rx : srel X.K ct as H dx x) (ry : srel X.K ct as H dy y) (s : SRel X.K ct as H S) (e : inD dx dy = some b) (q : ResQ X.K ct as H Q (.d (.bl (if neg then !b else b))) S) :
    wpOp X (compareOp (if neg then .NotIn else .In)) x y H Q := by
  have fin := out_d (v := .bl (if neg then !b else b)) s q rl_bl
  have anyP : ∀ (xs : List D), D.plains xs 60 = true → dx.plain 60 = true → ((D.pys xs).any fun z => PyData.eqv z dx.py) = xs.any fun z => z.eqv dx := fun xs h1 h2 => by
    induction xs with
    | nil => rfl
    | cons a r ih =>
      unfold D.plains at h1
      rw [Bool.and_eq_true] at h1
      unfold D.pys
      rw [List.any_cons, List.any_cons, ih h1.2, eqv_py _ _ _ _ h1.1 h2]
  unfold inD at e
  split at e
  · rename_i xs
    unfold memD at e
    split at e
    · rename_i hp
      cases e
      rw [Bool.and_eq_true] at hp
      obtain ⟨a, vs, rfl, t, r⟩ := ry
      have hl := rels.dp xs 60 vs hp.2 r
      have hd := rx.dp hp.1
      have hx := plain_shaped hp.1
      obtain ⟨c1, c2⟩ := plains_py xs 60 hp.2
      have sh : SeqAt.shaped (.list (D.pys xs)) = true := by
        unfold SeqAt.shaped PyData.canLay0 PyData.depth
        rw [c1, Bool.true_and, decide_eq_true_eq]; omega
      cases neg with
      | false => exact (op_inD hu).wp ⟨_, _, hd, .lst (SqL.of t) hl, hx, sh, by rw [anyP xs hp.2 hp.1]; exact fin⟩
      | true => exact (op_notInD hu).wp ⟨_, _, hd, .lst (SqL.of t) hl, hx, sh, by rw [anyP xs hp.2 hp.1]; exact fin⟩
    · cases e
  · rename_i xs
    unfold memD at e
    split at e
    · rename_i hp
      cases e
      rw [Bool.and_eq_true] at hp
      obtain ⟨a, vs, rfl, t, r⟩ := sr_tup ry
      have hl := rels.dp xs 60 vs hp.2 r
      have hd := rx.dp hp.1
      have hx := plain_shaped hp.1
      obtain ⟨c1, c2⟩ := plains_py xs 60 hp.2
      have sh : SeqAt.shaped (.tuple (D.pys xs)) = true := by
        unfold SeqAt.shaped PyData.canLay0 PyData.depth
        rw [c1, Bool.true_and, decide_eq_true_eq]; omega
      intro pins s' σ v u I rv ru
      obtain ⟨_, r1⟩ := Dp.reads I _ _ v hd rv
      obtain ⟨_, r2⟩ := Dp.reads I (.tuple (D.pys xs)) _ u (.tup t hl) ru
      cases neg with
      | false => exact SeqAt.in_tuple_reads r2 r1 (SeqAt.canLay_of_shaped sh) (SeqAt.canLay_of_shaped hx) (room_in_shaped hx hu) ⟨.bl _, H, I, rfl, by rw [anyP xs hp.2 hp.1]; exact fin⟩
      | true => exact SeqAt.notIn_tuple_reads r2 r1 (SeqAt.canLay_of_shaped sh) (SeqAt.canLay_of_shaped hx) (room_in_shaped hx hu) ⟨.bl _, H, I, rfl, by rw [anyP xs hp.2 hp.1]; exact fin⟩
    · cases e
  · rename_i z
    split at e
    · rename_i w
      unfold memS at e
      split at e
      · rename_i c
        cases e
        rw [sr_str rx, sr_str ry]
        have eqc : z.contains c = decide (c ∈ (⟨z.toArray⟩ : Str).cps.toList) := by
          by_cases h : c ∈ z
          · simp [h]
          · simp [h]
        cases neg with
        | false => exact op_in_sign.wp ⟨c, _, rfl, rfl, by rw [← eqc]; exact fin⟩
        | true => exact op_notIn_sign.wp ⟨c, _, rfl, rfl, by rw [← eqc]; exact fin⟩
      · cases e
    · cases e
  · cases e
end
end MI
set_option linter.all false
set_option Elab.async false
set_option maxRecDepth 100000
set_option maxHeartbeats 1000000
namespace MI
open PySem PySem.Spec PyProof.Rows L2
def srels (K : PySem.W.Frag) (ct : CT) (as : List Addr) (H : Hp) : List D → List V → Prop
  | [], vs => vs = []
  | d :: ds, vs => ∃ v r, vs = v :: r ∧ srel K ct as H d v ∧ srels K ct as H ds r
section
variable {K : PySem.W.Frag} {ct : CT} {as : List Addr} {H : Hp} {S : Sto}
theorem vseen : ∀ {rvs : List RV} {vs : List V} {ds : List D}, SRel K ct as H S → vrels K ct as H rvs vs → rvs.mapM (RV.see S) = some ds → srels K ct as H ds vs
  | [], vs, ds, s, r, e => by
    cases e
    unfold vrels at r
    unfold srels
    exact r
  | x :: xs, vs, ds, s, r, e => by
    unfold vrels at r
    obtain ⟨v, q, rfl, r1, r2⟩ := r
    rw [List.mapM_cons] at e
    cases h1 : x.see S with
    | none => rw [h1] at e; cases e
    | some d =>
      rw [h1] at e
      cases h2 : xs.mapM (RV.see S) with
      | none => rw [h2] at e; cases e
      | some es =>
        rw [h2] at e
        cases e
        exact ⟨v, q, rfl, seen s r1 h1, vseen s r2 h2⟩
theorem srels1 {d : D} {vs : List V} (r : srels K ct as H [d] vs) : ∃ v, vs = [v] ∧ srel K ct as H d v := by
  obtain ⟨v, q, rfl, r1, r2⟩ := r
  cases r2
  exact ⟨v, rfl, r1⟩
theorem srels2 {d e : D} {vs : List V} (r : srels K ct as H [d, e] vs) : ∃ v u, vs = [v, u] ∧ srel K ct as H d v ∧ srel K ct as H e u := by
  obtain ⟨v, q, rfl, r1, r2⟩ := r
  obtain ⟨u, rfl, r3⟩ := srels1 r2
  exact ⟨v, u, rfl, r1, r3⟩
end
theorem bools_of {ds : List D} {ns : List Bool} : bools? ds = some ns → ds = ns.map .bl := by
  induction ds generalizing ns with
  | nil => intro h; cases h; rfl
  | cons d ds ih =>
    intro h
    cases d <;> unfold bools? at h <;> first | (cases h; done) | skip
    cases q : bools? ds with
    | none => rw [q] at h; cases h
    | some ms => rw [q] at h; cases h; rw [ih q]; rfl
theorem rels_bls {K : PySem.W.Frag} {ct : CT} {as : List Addr} {H : Hp} : ∀ {ns : List Bool} {vs : List V}, rels K ct as H (ns.map D.bl) vs → vs = ns.map V.bl
  | [], vs, r => by unfold rels at r; exact r
  | n :: ns, vs, r => by
    simp only [List.map_cons] at r
    unfold rels at r
    obtain ⟨v, q, rfl, r1, r2⟩ := r
    unfold rel at r1
    rw [r1, rels_bls r2]; rfl
section
variable {X : Cx} {as : List Addr} {H : Hp} {S : Sto} {ct : CT} {Q : VK} {ds : List D} {vs : List V} {rv : RV}
theorem len_ok (r : srels X.K ct as H ds vs) (s : SRel X.K ct as H S) (e : lenD ds = some rv) (q : ResQ X.K ct as H Q rv S) : wpC X (.builtin "len") vs H Q := by
  unfold lenD at e
  split at e
  · cases e
    obtain ⟨v, rfl, a, ws, rfl, h, r1⟩ := srels1 r
    exact call_len.wp ⟨_, _, rfl, .inl ⟨ws, SqL.of h, r1.length⟩, out_d s q rl_int⟩
  · cases e
    obtain ⟨v, rfl, r1⟩ := srels1 r
    obtain ⟨a, ws, rfl, h, r2⟩ := sr_tup r1
    exact call_len.wp ⟨_, _, rfl, .inr ⟨ws, h, r2.length⟩, out_d s q rl_int⟩
  · split at e
    · rename_i xs hz
      cases e
      obtain ⟨v, rfl, r1⟩ := srels1 r
      rw [sr_str r1]
      refine call_len.wp ⟨_, xs.length, rfl, ⟨?_, ?_⟩, out_d s q rl_int⟩
      · show xs.toArray.size ≤ sizeLine
        rw [← lim_eq]; simpa using hz
      · show xs.length = xs.toArray.size
        simp
    · cases e
  · cases e
theorem sum_ok (hc : X.calm = true) (r : srels X.K ct as H ds vs) (s : SRel X.K ct as H S) (e : sumD ds = some rv) (q : ResQ X.K ct as H Q rv S) : wpC X (.builtin "sum") vs H Q := by
  unfold sumD at e
  split at e
  · rename_i xs
    cases h : ints? xs with
    | none => rw [h] at e; cases e
    | some ns =>
      rw [h] at e
      cases e
      obtain ⟨v, rfl, a, ws, rfl, h2, r1⟩ := srels1 r
      rw [ints_of h] at r1
      rw [rels_ints r1] at h2
      exact (cr_sum hc).wp ⟨_, ns, rfl, SqL.of h2, out_d s q rl_int⟩
  · cases e
theorem all_ok (hc : X.calm = true) (r : srels X.K ct as H ds vs) (s : SRel X.K ct as H S) (e : allF ds = some rv) (q : ResQ X.K ct as H Q rv S) : wpC X (.builtin "all") vs H Q := by
  unfold allF at e
  split at e
  · rename_i xs
    cases h : bools? xs with
    | none => rw [h] at e; cases e
    | some ns =>
      rw [h] at e
      cases e
      obtain ⟨v, rfl, a, ws, rfl, h2, r1⟩ := srels1 r
      rw [bools_of h] at r1
      rw [rels_bls r1] at h2
      exact (cr_all hc).wp ⟨_, ns, rfl, SqL.of h2, out_d s q rl_bl⟩
  · cases e
theorem any_ok (hc : X.calm = true) (r : srels X.K ct as H ds vs) (s : SRel X.K ct as H S) (e : anyF ds = some rv) (q : ResQ X.K ct as H Q rv S) : wpC X (.builtin "any") vs H Q := by
  unfold anyF at e
  split at e
  · rename_i xs
    cases h : bools? xs with
    | none => rw [h] at e; cases e
    | some ns =>
      rw [h] at e
      cases e
      obtain ⟨v, rfl, a, ws, rfl, h2, r1⟩ := srels1 r
      rw [bools_of h] at r1
      rw [rels_bls r1] at h2
      exact (cr_any hc).wp ⟨_, ns, rfl, SqL.of h2, out_d s q rl_bl⟩
  · cases e
theorem tuple_ok (r : srels X.K ct as H ds vs) (s : SRel X.K ct as H S) (e : tupleF ds = some rv) (q : ResQ X.K ct as H Q rv S) : wpC X (.type "tuple") vs H Q := by
  unfold tupleF at e
  split at e
  · cases e
    obtain ⟨v, rfl, a, ws, rfl, h, r1⟩ := srels1 r
    exact call_tuple_of.wp ⟨a, ws, rfl, .inl ⟨SqL.of h, fun p hp => out_tup s q r1 hp⟩⟩
  · cases e
    obtain ⟨v, rfl, r1⟩ := srels1 r
    obtain ⟨a, ws, rfl, h, r2⟩ := sr_tup r1
    exact call_tuple_of.wp ⟨a, ws, rfl, .inr ⟨h, out_d s q r1⟩⟩
  · cases e
theorem int_ok (hi : ∀ c : Nat, 48 ≤ c → c ≤ 57 → ∀ Q : VK, Q (.int (c - 48 : Nat)) H → wpC X (.type "int") [.str ⟨#[c]⟩] H Q) (r : srels X.K ct as H ds vs) (s : SRel X.K ct as H S) (e : intF ds = some rv) (q : ResQ X.K ct as H Q rv S) : wpC X (.type "int") vs H Q := by
  unfold intF at e
  split at e
  · cases e
    obtain ⟨v, rfl, r1⟩ := srels1 r
    rw [sr_int r1]
    exact call_int1.wp (.inl ⟨_, rfl, out_d s q rl_int⟩)
  · cases e
    obtain ⟨v, rfl, r1⟩ := srels1 r
    rw [sr_bl r1]
    exact call_int1.wp (.inr ⟨_, rfl, out_d s q rl_int⟩)
  · split at e
    · rename_i c hc
      cases e
      obtain ⟨v, rfl, r1⟩ := srels1 r
      rw [sr_str r1]
      exact hi c hc.1 hc.2 Q (out_d s q rl_int)
    · cases e
  · cases e
theorem abs_ok (r : srels X.K ct as H ds vs) (s : SRel X.K ct as H S) (e : absF ds = some rv) (q : ResQ X.K ct as H Q rv S) : wpC X (.builtin "abs") vs H Q := by
  unfold absF at e
  split at e
  · cases e
    obtain ⟨v, rfl, r1⟩ := srels1 r
    rw [sr_int r1]
    exact call_abs.wp ⟨_, rfl, out_d s q rl_int⟩
  · cases e
theorem small_str {i : Int} (h : 0 ≤ i ∧ i < 10) : (⟨[i.toNat + 48].toArray⟩ : Str) = toString i := by
  have : i = 0 ∨ i = 1 ∨ i = 2 ∨ i = 3 ∨ i = 4 ∨ i = 5 ∨ i = 6 ∨ i = 7 ∨ i = 8 ∨ i = 9 := by omega
  rcases this with rfl | rfl | rfl | rfl | rfl | rfl | rfl | rfl | rfl | rfl <;> decide +kernel
theorem str_ok (r : srels X.K ct as H ds vs) (s : SRel X.K ct as H S) (e : strF ds = some rv) (q : ResQ X.K ct as H Q rv S) : wpC X (.type "str") vs H Q := by
  unfold strF at e
  split at e
  · split at e
    · rename_i i hz
      cases e
      obtain ⟨v, rfl, r1⟩ := srels1 r
      rw [sr_int r1]
      refine call_str_int.wp ⟨_, rfl, ?_, ?_⟩
      · have : i.natAbs < 2 ^ 1920 := by
          have : (10 : Nat) < 2 ^ 1920 := by decide +kernel
          omega
        rcases Nat.eq_zero_or_pos i.natAbs with z | z
        · rw [z]; decide
        · exact (Nat.log2_lt (by omega)).mpr this
      · rw [← small_str hz]
        exact out_d s q rl_str
    · cases e
  · cases e
end
end MI
set_option linter.all false
set_option Elab.async false
set_option maxRecDepth 100000
set_option maxHeartbeats 1000000
namespace MI
open PySem PySem.Spec PyProof.Rows L2
/-! ### forms of expressions -/
def isStar : Expr → Bool
  | .Starred .. => true
  | _ => false
theorem star_plain {e : Expr} {es : List Expr} {env : Env} (h : isStar e = false) : starEach (e :: es) env = (false, eval e env) :: starEach es env := by
  cases e <;> first | rfl | cases h
theorem star_none {env : Env} : ∀ {es : List Expr}, es.all (fun e => !isStar e) = true → (starEach es env).any (·.1) = false
  | [], _ => rfl
  | e :: es, h => by
    rw [List.all_cons, Bool.and_eq_true] at h
    rw [star_plain (by simpa using h.1), List.any_cons, star_none h.2]; rfl
theorem back_any {pos : Pos} {env : Env} {es : List Expr} : (backTo pos (starEach es env)).any (·.1) = (starEach es env).any (·.1) := by
  unfold backTo
  rw [List.any_map]; rfl
theorem back_none {pos : Pos} {env : Env} {es : List Expr} (h : es.all (fun e => !isStar e) = true) : (backTo pos (starEach es env)).any (·.1) = false := by rw [back_any, star_none h]
/-- not a call of super -/
def noCall : Expr → Bool
  | .Call (.Name x _) [] [] _ => !(x == ("super" : Str))
  | _ => true
theorem attr_plain {o : Expr} {f : Str} {env : Env} {m : Sem Value} (h : noCall o = true) : attributeBase o f env m = m := by
  unfold attributeBase
  split
  · rename_i x p pos
    have hx : (x == ("super" : Str)) = false := by simpa [noCall] using h
    rw [if_pos (by simp only [bne, hx]; rfl)]
  · cases m <;> rfl
/-- a test that is the truth of a value -/
def valT : Expr → Bool
  | .UnaryOp .Not _ _ => false
  | .BoolOp .. => false
  | .IfExp .. => false
  | .Compare .. => false
  | _ => true
theorem true_plain {e : Expr} {env : Env} (h : valT e = true) : ∀ whole, isTrue e env whole = (do let v ← whole; standAt e.pos; holding [v] (truthy v)) := by
  intro whole
  cases e <;> first | rfl | (cases h; done) | skip
  rename_i op x p
  cases op <;> first | rfl | (cases h; done)
def isLC : Expr → Bool
  | .ListComp .. => true
  | .SetComp .. => true
  | .DictComp .. => true
  | _ => false
theorem swaps_plain {e : Expr} {t : Option Expr} {l : Nat} {env : Env} (h : isLC e = false) : swapsWith e t l env = pure false := by
  cases e <;> first | rfl | cases h
def isSlice : Expr → Bool
  | .Slice .. => true
  | _ => false
theorem ix_plain {e : Expr} (h : isSlice e = false) : PlainIx e := by
  intro o i
  cases e <;> first | rfl | cases h
def isSet : Expr → Bool
  | .Set .. => true
  | _ => false
theorem mark_plain {op : CmpOp} {e : Expr} (h : isSet e = false) : behindInMarks op e = false := by
  cases e <;> first | rfl | cases h
theorem fold_plain {e : Expr} {env : Env} (h : isSet e = false) : ∀ x, foldedSetIterable e env x = pure x := by
  intro x
  cases e <;> first | rfl | cases h
section
variable {I : Info} {n : Nat} {N : List Str} {sc : Scope} {X : Cx} {W : WX} {ρ : Rho} {S : Sto} {as : List Addr} {σ : L2.St} {H : Hp} {Q : VK} {a b c : Expr} {A B C : E} {pos : Pos}
theorem vr_bl {K : PySem.W.Frag} {ct : CT} {k : Bool} {v : V} (r : vrel K ct as H (.d (.bl k)) v) : v = .bl k := by
  have r' : rel K ct as H (.bl k) v := r
  unfold rel at r'
  exact r'
theorem vr_int {K : PySem.W.Frag} {ct : CT} {k : Int} {v : V} (r : vrel K ct as H (.d (.int k)) v) : v = .int k := by
  have r' : rel K ct as H (.int k) v := r
  unfold rel at r'
  exact r'
theorem Res.ofD {K : PySem.W.Frag} {ct : CT} {d : D} {v : V} {S' : Sto} {H' : Hp} (k : Keep as H H') (s : SRel K ct as H' S') (r : rel K ct as H' d v) : Res K ct as H (.d d) S' v H' := ⟨k, s, r⟩
/-! ### tests -/
theorem sT_val (s : SoundE I n N sc a A) (h : valT a = true) : SoundT I n N sc a (fun ρ S => tst (ev (I.g n) A ρ S)) := by
  intro X W hc ρ S as σ H Q he hs g
  refine (pt_val (pe_wp (X := X) (e := a)) (true_plain h)).wp ?_
  refine s.then_ hc he hs g fun rv S1 v H1 r g1 => ?_
  obtain ⟨b, e, q⟩ := Good.of g1
  unfold RV.isTrue at e
  split at e
  · rename_i k
    cases e
    obtain ⟨k1, s1, r1⟩ := r.hand rfl
    have : v = .bl b := vr_bl r1
    exact ⟨b, this, q H1 k1 s1⟩
  · cases e
theorem SoundT.then_ {m : Rho → Sto → R Bool} (s : SoundT I n N sc a m) (hc : Cn I n N sc X W) {α : Type} {f : Bool → Sto → R α} {q : α → Sto → Prop} {R1 : Bool → Hp → Prop} (he : EnvOk X.K I.ct as H ρ σ) (hs : SRel X.K I.ct as H S)
    (g : Good X.K I.ct W as ((m ρ S).bind f) H σ q) (h : ∀ b S1 H1, Keep as H H1 → SRel X.K I.ct as H1 S1 → Good X.K I.ct W as (f b S1) H1 σ q → R1 b H1) : wpT X a σ H R1 :=
  s X W hc ρ S as σ H R1 he hs (g.bind.imp fun b S1 g1 H1 k s1 => h b S1 H1 k s1 (Good.mono k g1))
theorem tst_ok {b : Bool} {S : Sto} : tst (.ok (.d (.bl b)) S) = .ok b S := rfl
theorem Good.bl {K : PySem.W.Frag} {ct : CT} {b : Bool} {H0 : Hp} {Q : VK} (s : SRel K ct as H S) (g : Good K ct W as (R.ok (.d (.bl b)) S) H σ (ResQ K ct as H Q)) : Q (.bl b) H := g _ _ (Res.ofD .refl s rl_bl)
theorem sT_not {m : Rho → Sto → R Bool} (s : SoundT I n N sc a m) : SoundT I n N sc (.UnaryOp .Not a pos) (fun ρ S => (m ρ S).bind fun r S => .ok (!r) S) := by
  intro X W hc ρ S as σ H Q he hs g
  refine (pt_not (pt_wp (X := X) (e := a))).wp ?_
  exact s.then_ hc he hs g fun b S1 H1 k s1 g1 => g1 H1 k s1
theorem sE_not {m : Rho → Sto → R Bool} (s : SoundE I n N sc a A) : SoundE I n N sc (.UnaryOp .Not a pos) (.not A) := by
  intro X W hc ρ S as σ H Q he hs g
  refine (pe_not (pe_wp (X := X) (e := a))).wp ?_
  unfold ev at g
  unfold tst at g
  have g' : Good X.K I.ct W as ((ev (I.g n) A ρ S).bind fun v S => (R.of v.isTrue S).bind fun r S => R.ok (.d (.bl (!r))) S) H σ (ResQ X.K I.ct as H Q) := by
    cases hm : ev (I.g n) A ρ S with
    | ok v S1 => rw [hm] at g; exact g
    | exc c fs S1 => rw [hm] at g; exact g
    | fail => rw [hm] at g; exact g
  refine s.then_ hc he hs g' fun rv S1 v H1 r g1 => ?_
  obtain ⟨b, e, q⟩ := Good.of g1.bind
  unfold RV.isTrue at e
  split at e
  · cases e
    obtain ⟨k1, s1, r1⟩ := r.hand rfl
    exact ⟨b, vr_bl r1, q _ _ (Res.ofD k1 s1 rl_bl)⟩
  · cases e
theorem R.bind_assoc {α β γ : Type} {m : R α} {f : α → Sto → R β} {g : β → Sto → R γ} : (m.bind f).bind g = m.bind fun a S => (f a S).bind g := by cases m <;> rfl
theorem tst_bind {α : Type} {m : R RV} {f : Bool → Sto → R α} : (tst m).bind f = m.bind fun v S => (R.of v.isTrue S).bind f := R.bind_assoc
/-- a value that is true or false, then -/
theorem SoundE.bool_ (s : SoundE I n N sc a A) (hc : Cn I n N sc X W) {α : Type} {f : Bool → Sto → R α} {q : α → Sto → Prop} {R1 : VK} (he : EnvOk X.K I.ct as H ρ σ) (hs : SRel X.K I.ct as H S)
    (g : Good X.K I.ct W as ((tst (ev (I.g n) A ρ S)).bind f) H σ q) (h : ∀ b S1 H1, Keep as H H1 → SRel X.K I.ct as H1 S1 → Good X.K I.ct W as (f b S1) H1 σ q → R1 (.bl b) H1) : wpE X a σ H R1 := by
  rw [tst_bind] at g
  refine s.then_ hc he hs g fun rv S1 v H1 r g1 => ?_
  obtain ⟨b, e, q⟩ := Good.of g1.bind
  unfold RV.isTrue at e
  split at e
  · cases e
    obtain ⟨k1, s1, r1⟩ := r.hand rfl
    rw [vr_bl r1]
    exact h b S1 H1 k1 s1 q
  · cases e
theorem sE_and {r : List Expr} {p p' : Pos} (s : SoundE I n N sc a A) (s2 : SoundE I n N sc (.BoolOp .And (b :: r) pos) B) : SoundE I n N sc (.BoolOp .And (a :: b :: r) pos) (.and A B) := by
  intro X W hc ρ S as σ H Q he hs g
  refine (pe_and (pe_wp (X := X) (e := a)) (pe_wp (X := X) (e := .BoolOp .And (b :: r) pos))).wp ?_
  unfold ev at g
  refine s.bool_ hc he hs g fun k S1 H1 k1 s1 g1 => ⟨k, rfl, ?_⟩
  cases k with
  | true =>
    rw [if_pos rfl] at g1 ⊢
    exact s2 X W hc ρ S1 as σ H1 Q (he.keep k1) s1 (ResQ.back k1 g1)
  | false =>
    rw [if_neg Bool.false_ne_true] at g1 ⊢
    exact g1 _ _ (Res.ofD k1 s1 rl_bl)
theorem sE_or {r : List Expr} (s : SoundE I n N sc a A) (s2 : SoundE I n N sc (.BoolOp .Or (b :: r) pos) B) : SoundE I n N sc (.BoolOp .Or (a :: b :: r) pos) (.or A B) := by
  intro X W hc ρ S as σ H Q he hs g
  refine (pe_or (pe_wp (X := X) (e := a)) (pe_wp (X := X) (e := .BoolOp .Or (b :: r) pos))).wp ?_
  unfold ev at g
  refine s.bool_ hc he hs g fun k S1 H1 k1 s1 g1 => ⟨k, rfl, ?_⟩
  cases k with
  | false =>
    rw [if_neg Bool.false_ne_true] at g1 ⊢
    exact s2 X W hc ρ S1 as σ H1 Q (he.keep k1) s1 (ResQ.back k1 g1)
  | true =>
    rw [if_pos rfl] at g1 ⊢
    exact g1 _ _ (Res.ofD k1 s1 rl_bl)
theorem sE_one {op : BoolOp} (s : SoundE I n N sc a A) : SoundE I n N sc (.BoolOp op [a] pos) A := fun X W hc ρ S as σ H Q he hs g => (pe_one (pe_wp (X := X) (e := a))).wp (s X W hc ρ S as σ H Q he hs g)
/-- and, or as tests, whatever the whole is -/
def SoundW (I : Info) (n : Nat) (N : List Str) (sc : Scope) (e : Expr) (m : Rho → Sto → R Bool) : Prop := ∀ (X : Cx) (W : WX), Cn I n N sc X W → ∀ ρ S as σ H (Q : Bool → Hp → Prop), EnvOk X.K I.ct as H ρ σ → SRel X.K I.ct as H S →
  Good X.K I.ct W as (m ρ S) H σ (fun b S' => ∀ H', Keep as H H' → SRel X.K I.ct as H' S' → Q b H') → ∀ (whole : Sem Value) (pins : List (Addr × Obj)) (s : Shared), Inv X pins σ H s → wpAny (model X.prog X.w) X.A (isTrue e X.env whole) (TP X pins σ Q) X.xe s
theorem SoundW.t {m} (s : SoundW I n N sc a m) : SoundT I n N sc a m := fun X W hc ρ S as σ H Q he hs g pins s' J => s X W hc ρ S as σ H Q he hs g _ pins s' J
def wpW (X : Cx) (e : Expr) : TT := fun σ H Q => ∀ (whole : Sem Value) (pins : List (Addr × Obj)) (s : Shared), Inv X pins σ H s → wpAny (model X.prog X.w) X.A (isTrue e X.env whole) (TP X pins σ Q) X.xe s
theorem pw_wp {X : Cx} {e : Expr} : PW X e (wpW X e) := ⟨fun wh pins s _ _ _ I h => h wh pins s I⟩
theorem sW_one {op : BoolOp} {m} (s : SoundT I n N sc a m) : SoundW I n N sc (.BoolOp op [a] pos) m := fun X W hc ρ S as σ H Q he hs g wh pins s' J => by
  cases op with
  | And => exact (pw_and1 (pt_wp (X := X) (e := a))).run wh pins s' σ H Q J (s X W hc ρ S as σ H Q he hs g)
  | Or => exact (pw_or1 (pt_wp (X := X) (e := a))).run wh pins s' σ H Q J (s X W hc ρ S as σ H Q he hs g)
theorem sW_and {r : List Expr} {m m2} (s : SoundT I n N sc a m) (s2 : SoundW I n N sc (.BoolOp .And (b :: r) pos) m2) :
    SoundW I n N sc (.BoolOp .And (a :: b :: r) pos) (fun ρ S => (m ρ S).bind fun k S => if k then m2 ρ S else .ok false S) := fun X W hc ρ S as σ H Q he hs g wh pins s' J => by
  refine (pw_and (pt_wp (X := X) (e := a)) (pw_wp (X := X) (e := .BoolOp .And (b :: r) pos))).run wh pins s' σ H Q J ?_
  refine s.then_ hc he hs g fun k S1 H1 k1 s1 g1 => ?_
  cases k with
  | true =>
    rw [if_pos rfl] at g1 ⊢
    exact s2 X W hc ρ S1 as σ H1 Q (he.keep k1) s1 (g1.imp fun b S2 q H2 k2 s2 => q H2 (k1.tr k2) s2)
  | false =>
    rw [if_neg Bool.false_ne_true] at g1 ⊢
    exact g1 _ k1 s1
theorem sW_or {r : List Expr} {m m2} (s : SoundT I n N sc a m) (s2 : SoundW I n N sc (.BoolOp .Or (b :: r) pos) m2) :
    SoundW I n N sc (.BoolOp .Or (a :: b :: r) pos) (fun ρ S => (m ρ S).bind fun k S => if k then .ok true S else m2 ρ S) := fun X W hc ρ S as σ H Q he hs g wh pins s' J => by
  refine (pw_or (pt_wp (X := X) (e := a)) (pw_wp (X := X) (e := .BoolOp .Or (b :: r) pos))).run wh pins s' σ H Q J ?_
  refine s.then_ hc he hs g fun k S1 H1 k1 s1 g1 => ?_
  cases k with
  | false =>
    rw [if_neg Bool.false_ne_true] at g1 ⊢
    exact s2 X W hc ρ S1 as σ H1 Q (he.keep k1) s1 (g1.imp fun b S2 q H2 k2 s2 => q H2 (k1.tr k2) s2)
  | true =>
    rw [if_pos rfl] at g1 ⊢
    exact g1 _ k1 s1
theorem sE_ite {m} (st : SoundT I n N sc c m) (sa : SoundE I n N sc a A) (sb : SoundE I n N sc b B) (hm : ∀ ρ S, m ρ S = tst (ev (I.g n) C ρ S)) : SoundE I n N sc (.IfExp c a b pos) (.ite C A B) := by
  intro X W hc ρ S as σ H Q he hs g
  refine (pe_ifExp (pt_wp (X := X) (e := c)) (pe_wp (X := X) (e := a)) (pe_wp (X := X) (e := b))).wp ?_
  unfold ev at g
  rw [← hm] at g
  refine st.then_ hc he hs g fun k S1 H1 k1 s1 g1 => ?_
  cases k with
  | true =>
    rw [if_pos rfl] at g1 ⊢
    exact sa X W hc ρ S1 as σ H1 Q (he.keep k1) s1 (ResQ.back k1 g1)
  | false =>
    rw [if_neg Bool.false_ne_true] at g1 ⊢
    exact sb X W hc ρ S1 as σ H1 Q (he.keep k1) s1 (ResQ.back k1 g1)
end
end MI
set_option linter.all false
set_option Elab.async false
set_option maxRecDepth 100000
set_option maxHeartbeats 1000000
namespace MI
open PySem PySem.Spec PyProof.Rows L2
/-- a built-in's call, by data -/
def RuleC (I : Info) (n : Nat) (f : List D → Option RV) (fn : Value) : Prop := ∀ (N : List Str) (sc : Scope) (X : Cx) (W : WX), Cn I n N sc X W → ∀ (as : List Addr) (H : Hp) (S : Sto) (Q : VK) (ds : List D) (vs : List V) (rv : RV),
  srels X.K I.ct as H ds vs → SRel X.K I.ct as H S → f ds = some rv → ResQ X.K I.ct as H Q rv S → wpC X fn vs H Q
/-- len(set(x)), sorted(set(x)) -/
def RuleS (I : Info) (n : Nat) (f : List D → Option RV) (fn : Value) : Prop := ∀ (N : List Str) (sc : Scope) (X : Cx) (W : WX), Cn I n N sc X W → ∀ (as : List Addr) (H : Hp) (S : Sto) (Q : VK) (ds : List D) (vs : List V) (rv : RV),
  srels X.K I.ct as H ds vs → SRel X.K I.ct as H S → f ds = some rv → ResQ X.K I.ct as H Q rv S → wpC X (.type "set") vs H fun u H1 => wpC X fn [u] H1 Q
/-- an operator by data -/
def RuleO (I : Info) (n : Nat) (f : D → D → Option RV) (fn : Value → Value → Sem Value) : Prop := ∀ (N : List Str) (sc : Scope) (X : Cx) (W : WX), Cn I n N sc X W → ∀ (as : List Addr) (H : Hp) (S : Sto) (Q : VK) (dx dy : D) (x y : V) (rv : RV),
  srel X.K I.ct as H dx x → srel X.K I.ct as H dy y → SRel X.K I.ct as H S → f dx dy = some rv → ResQ X.K I.ct as H Q rv S → wpOp X fn x y H Q
def opFn : Op → Value → Value → Sem Value
  | .add => binaryOp .Add
  | .sub => binaryOp .Sub
  | .mul => binaryOp .Mult
  | .fdiv => binaryOp .FloorDiv
  | .mod => binaryOp .Mod
  | .pow => binaryOp .Pow
  | .eq => compareOp .Eq
  | .ne => compareOp .NotEq
  | .lt => compareOp .Lt
  | .le => compareOp .LtE
  | .gt => compareOp .Gt
  | .ge => compareOp .GtE
  | .mem => compareOp .In
  | .nmem => compareOp .NotIn
def biFn : Bi → Option Value
  | .len => some (.builtin "len")
  | .sum => some (.builtin "sum")
  | .min => some (.builtin "min")
  | .max => some (.builtin "max")
  | .all => some (.builtin "all")
  | .any => some (.builtin "any")
  | .sorted => some (.builtin "sorted")
  | .tuple => some (.type "tuple")
  | .list => some (.type "list")
  | .int => some (.type "int")
  | .str => some (.type "str")
  | .abs => some (.builtin "abs")
  | _ => none
/-- what else is leaned on -/
structure Hyp (I : Info) (n : Nat) : Prop where
  bi : ∀ (b : Bi) (fn : Value), biFn b = some fn → RuleC I n (biD I.T.sub b) fn
  lenSet : RuleS I n lenSetF (.builtin "len")
  sortSet : RuleS I n sortSetF (.builtin "sorted")
  op : ∀ o : Op, RuleO I n (opD o) (opFn o)
  /-- == and != where the left side is an instance of an own class -/
  obj : ∀ (o : Op) (N : List Str) (sc : Scope) (X : Cx) (W : WX), Cn I n N sc X W → ∀ (as : List Addr) (H : Hp) (S : Sto) (Q : VK) (σ : L2.St) (c : Nat) (xs : List D) (dy : D) (x y : V),
    srel X.K I.ct as H (.obj c xs) x → srel X.K I.ct as H dy y → SRel X.K I.ct as H S → Good X.K I.ct W as (opR (I.g n) o (.d (.obj c xs)) (.d dy) S) H σ (ResQ X.K I.ct as H Q) → wpOp X (opFn o) x y H Q
section
variable {I : Info} {n : Nat} {N : List Str} {sc : Scope} {X : Cx} {W : WX} {ρ : Rho} {S : Sto} {as : List Addr} {σ : L2.St} {H : Hp} {Q : VK} {a b c : Expr} {A B C : E} {pos : Pos}
theorem dget_mem {kvs : List (D × D)} {d : D} : True := trivial
/-- an operator on two values that are handed on -/
theorem opR_ok (hy : Hyp I n) (hc : Cn I n N sc X W) {o : Op} {x y : RV} {vx vy : V} (s : SRel X.K I.ct as H S) (rx : vrel X.K I.ct as H x vx) (ry : vrel X.K I.ct as H y vy)
    (hd : ∀ k kvs dx, y = .r k → S[k]? = some (.dict kvs) → x.see S = some dx → Good X.K I.ct W as (opR (I.g n) o x y S) H σ (ResQ X.K I.ct as H Q) → wpOp X (opFn o) vx vy H Q)
    (g : Good X.K I.ct W as (opR (I.g n) o x y S) H σ (ResQ X.K I.ct as H Q)) : wpOp X (opFn o) vx vy H Q := by
  cases hx : x.see S with
  | none =>
    unfold opR at g
    rw [hx] at g
    exact g.elim
  | some dx =>
    cases hyy : y.see S with
    | some dy =>
      have sx := seen s rx hx
      have sy := seen s ry hyy
      by_cases ho : ∃ c xs, dx = .obj c xs
      · obtain ⟨c, xs, rfl⟩ := ho
        refine hy.obj o N sc X W hc as H S Q σ c xs dy vx vy sx sy s ?_
        have e : opR (I.g n) o x y S = opR (I.g n) o (.d (.obj c xs)) (.d dy) S := by
          unfold opR
          rw [hx, hyy]
          rfl
        rw [← e]
        exact g
      · have e : opR (I.g n) o x y S = R.of (opD o dx dy) S := by
          unfold opR
          rw [hx, hyy]
          cases dx <;> first | rfl | (exact (ho ⟨_, _, rfl⟩).elim)
        rw [e] at g
        obtain ⟨rv, e2, q⟩ := Good.of g
        exact hy.op o N sc X W hc as H S Q dx dy vx vy rv sx sy s e2 q
    | none =>
      have g0 := g
      unfold opR at g
      rw [hx, hyy] at g
      cases dx <;> first
        | exact g.elim
        | (dsimp only at g
           split at g
           · rename_i k
             split at g
             · rename_i kvs hk
               exact hd k kvs _ rfl hk hx g0
             · exact g.elim
           · exact g.elim)
def opOf : Operator → Option Op
  | .Add => some .add
  | .Sub => some .sub
  | .Mult => some .mul
  | .FloorDiv => some .fdiv
  | .Mod => some .mod
  | .Pow => some .pow
  | _ => none
theorem opOf_fn {op : Operator} {o : Op} (h : opOf op = some o) : opFn o = binaryOp op := by cases op <;> first | (cases h; done) | (cases h; rfl)
def cmpOf : CmpOp → Option Op
  | .Eq => some .eq
  | .NotEq => some .ne
  | .Lt => some .lt
  | .LtE => some .le
  | .Gt => some .gt
  | .GtE => some .ge
  | .In => some .mem
  | .NotIn => some .nmem
  | _ => none
theorem cmpOf_fn {op : CmpOp} {o : Op} (h : cmpOf op = some o) : opFn o = compareOp op := by cases op <;> first | (cases h; done) | (cases h; rfl)
/-- in, not in over a dict -/
def DictIn (I : Info) (n : Nat) : Prop := ∀ (o : Op) (N : List Str) (sc : Scope) (X : Cx) (W : WX), Cn I n N sc X W → ∀ (as : List Addr) (H : Hp) (S : Sto) (Q : VK) (σ : L2.St) (x : RV) (k : Nat) (kvs : List (D × D)) (dx : D) (vx vy : V),
  vrel X.K I.ct as H x vx → vrel X.K I.ct as H (.r k) vy → SRel X.K I.ct as H S → S[k]? = some (.dict kvs) → x.see S = some dx → Good X.K I.ct W as (opR (I.g n) o x (.r k) S) H σ (ResQ X.K I.ct as H Q) → wpOp X (opFn o) vx vy H Q
/-- a new thing is seen as what it is let go for -/
theorem opR_hand {g : G} {o : Op} {x y y' : RV} {S : Sto} (h : y.hand = some y') : opR g o x y S = opR g o x y' S := by
  cases y with
  | d d => cases h; rfl
  | r n => cases h; rfl
  | new c =>
    have h' : c.freeze.map RV.d = some y' := h
    cases e : c.freeze with
    | none => rw [e] at h'; cases h'
    | some d =>
      rw [e] at h'
      cases h'
      unfold opR
      rw [show (RV.new c).see S = some d from e, show (RV.d d).see S = some d from rfl]
theorem opR_fail {g : G} {o : Op} {x y : RV} {S : Sto} (h : y.hand = none) : opR g o x y S = .fail := by
  cases y with
  | d d => cases h
  | r n => cases h
  | new c =>
    have h' : c.freeze.map RV.d = none := h
    have e : c.freeze = none := by cases q : c.freeze with | none => rfl | some d => rw [q] at h'; cases h'
    unfold opR
    rw [show (RV.new c).see S = none from e]
    cases x.see S with
    | none => rfl
    | some d => cases d <;> rfl
/-- two operands, the operator behind -/
theorem bin_ok (hy : Hyp I n) (hdi : DictIn I n) (hc : Cn I n N sc X W) (sa : SoundE I n N sc a A) (sb : SoundE I n N sc b B) {o : Op} (he : EnvOk X.K I.ct as H ρ σ) (hs : SRel X.K I.ct as H S)
    (g : Good X.K I.ct W as (ev (I.g n) (.op o A B) ρ S) H σ (ResQ X.K I.ct as H Q)) : tOp (wpOp X (opFn o)) (wpE X a) (wpE X b) σ H Q := by
  unfold ev at g
  refine sa.hand_ hc he hs g fun x S1 v1 H1 k1 s1 r1 g1 => ?_
  refine sb.then_ hc (he.keep k1) s1 g1 fun y S2 v2 H2 r2 g2 => ?_
  cases hh : y.hand with
  | none =>
    rw [opR_fail hh] at g2
    exact g2.elim
  | some y' =>
    rw [opR_hand hh] at g2
    obtain ⟨k2, s2, r3⟩ := r2.hand hh
    have g3 := ResQ.back (k1.tr k2) g2
    exact opR_ok hy hc s2 (r1.keep k2) r3 (fun k kvs dx e hk hx g => by subst e; exact hdi o N sc X W hc as H2 S2 Q σ x k kvs dx v1 v2 (r1.keep k2) r3 s2 hk hx g) g3
theorem sE_op (hy : Hyp I n) (hdi : DictIn I n) (sa : SoundE I n N sc a A) (sb : SoundE I n N sc b B) {op : Operator} {o : Op} (h : opOf op = some o) : SoundE I n N sc (.BinOp a op b pos) (.op o A B) := by
  intro X W hc ρ S as σ H Q he hs g
  refine (pe_op (r := wpOp X (opFn o)) (by rw [opOf_fn h]; exact op_wp) (pe_wp (X := X) (e := a)) (pe_wp (X := X) (e := b))).wp ?_
  exact bin_ok hy hdi hc sa sb he hs g
theorem sE_cmp (hy : Hyp I n) (hdi : DictIn I n) (sa : SoundE I n N sc a A) (sb : SoundE I n N sc b B) {op : CmpOp} {o : Op} (h : cmpOf op = some o) (hb : isSet b = false) : SoundE I n N sc (.Compare a [op] [b] pos) (.op o A B) := by
  intro X W hc ρ S as σ H Q he hs g
  refine (pe_cmpR (r := wpOp X (opFn o)) (by rw [cmpOf_fn h]; exact op_wp) (pe_wp (X := X) (e := a)) (pe_wp (X := X) (e := b)) (mark_plain hb)).wp ?_
  exact bin_ok hy hdi hc sa sb he hs g
/-- a value that is tested: true or false -/
theorem good_tst {m : R RV} {Qb : Bool → Hp → Prop} (g : Good X.K I.ct W as (tst m) H σ (fun b S' => ∀ H', Keep as H H' → SRel X.K I.ct as H' S' → Qb b H')) :
    Good X.K I.ct W as m H σ (ResQ X.K I.ct as H fun v H' => ∃ b, v = .bl b ∧ Qb b H') := by
  unfold tst at g
  refine g.bind.imp fun rv S' g1 v H' r => ?_
  obtain ⟨b, e, q⟩ := Good.of g1
  unfold RV.isTrue at e
  split at e
  · cases e
    obtain ⟨k1, s1, r1⟩ := r.hand rfl
    exact ⟨b, vr_bl r1, q H' k1 s1⟩
  · cases e
theorem sT_cmp (hy : Hyp I n) (hdi : DictIn I n) (sa : SoundE I n N sc a A) (sb : SoundE I n N sc b B) {op : CmpOp} {o : Op} (h : cmpOf op = some o) (hb : isSet b = false) : SoundT I n N sc (.Compare a [op] [b] pos) (fun ρ S => tst (ev (I.g n) (.op o A B) ρ S)) := by
  intro X W hc ρ S as σ H Q he hs g
  refine (pt_cmpR (r := wpOp X (opFn o)) (by rw [cmpOf_fn h]; exact op_wp) (pe_wp (X := X) (e := a)) (pe_wp (X := X) (e := b)) (mark_plain hb)).wp ?_
  exact bin_ok hy hdi hc sa sb he hs (good_tst g)
/-! ### is None -/
theorem isN_val {rv : RV} {v : V} {S' : Sto} {H' : Hp} {as : List Addr} {K : PySem.W.Frag} {ct : CT} (r : Res K ct as H rv S' v H') : rv.isNon = decide (v = .non) := by
  obtain ⟨k, r⟩ := r
  cases rv with
  | d d =>
    obtain ⟨_, r⟩ := r
    have r' : rel K ct as H' d v := r
    cases d <;> unfold rel at r' <;> first
      | (rw [r']; rfl)
      | (obtain ⟨a, vs, rfl, _⟩ := r'; rfl)
      | (obtain ⟨a, dx, fs, rfl, _⟩ := r'; rfl)
      | (obtain ⟨a, rfl, _⟩ := r'; rfl)
      | exact r'.elim
  | r n => obtain ⟨_, a, _, rfl⟩ := r; rfl
  | new c => obtain ⟨a, rfl, _⟩ := r; rfl
theorem Res.store {rv : RV} {v : V} {S' : Sto} {H' : Hp} {as : List Addr} {K : PySem.W.Frag} {ct : CT} (r : Res K ct as H rv S' v H') : Keep as H H' ∧ SRel K ct as H' S' := by
  obtain ⟨k, r⟩ := r
  cases rv with
  | d d => exact ⟨k, r.1⟩
  | r n => exact ⟨k, r.1⟩
  | new c => obtain ⟨a, _, _, q⟩ := r; exact ⟨k, q.pop⟩
theorem sE_isN {j : Nat} {p' : Pos} (sa : SoundE I n N sc a A) : SoundE I n N sc (.Compare a [.Is] [.Constant .none j p'] pos) (.isN A) := by
  intro X W hc ρ S as σ H Q he hs g
  refine (pe_cmp (pc_isN (pe_wp (X := X) (e := a))) rfl).wp ?_
  unfold ev at g
  refine sa.then_ hc he hs g fun rv S1 v H1 r g1 => ?_
  rw [← isN_val r]
  obtain ⟨k, s⟩ := r.store
  exact g1 _ _ (Res.ofD k s rl_bl)
theorem sE_notN {j : Nat} {p' : Pos} (sa : SoundE I n N sc a A) : SoundE I n N sc (.Compare a [.IsNot] [.Constant .none j p'] pos) (.notN A) := by
  intro X W hc ρ S as σ H Q he hs g
  refine (pe_cmp (pc_notN (pe_wp (X := X) (e := a))) rfl).wp ?_
  unfold ev at g
  refine sa.then_ hc he hs g fun rv S1 v H1 r g1 => ?_
  rw [← isN_val r]
  obtain ⟨k, s⟩ := r.store
  exact g1 _ _ (Res.ofD k s rl_bl)
theorem sT_isN {j : Nat} {p' : Pos} (sa : SoundE I n N sc a A) : SoundT I n N sc (.Compare a [.Is] [.Constant .none j p'] pos) (fun ρ S => tst (ev (I.g n) (.isN A) ρ S)) := by
  intro X W hc ρ S as σ H Q he hs g
  refine (pt_cmp (pc_isN (pe_wp (X := X) (e := a))) rfl).wp ?_
  have g := good_tst g
  unfold ev at g
  show tIsN (wpE X a) σ H fun x H1 => ∃ c, x = .bl c ∧ Q c H1
  refine sa.then_ hc he hs g fun rv S1 v H1 r g1 => ?_
  rw [← isN_val r]
  obtain ⟨k, s⟩ := r.store
  exact g1 _ _ (Res.ofD k s rl_bl)
theorem sT_notN {j : Nat} {p' : Pos} (sa : SoundE I n N sc a A) : SoundT I n N sc (.Compare a [.IsNot] [.Constant .none j p'] pos) (fun ρ S => tst (ev (I.g n) (.notN A) ρ S)) := by
  intro X W hc ρ S as σ H Q he hs g
  refine (pt_cmp (pc_notN (pe_wp (X := X) (e := a))) rfl).wp ?_
  have g := good_tst g
  unfold ev at g
  show tNotN (wpE X a) σ H fun x H1 => ∃ c, x = .bl c ∧ Q c H1
  refine sa.then_ hc he hs g fun rv S1 v H1 r g1 => ?_
  rw [← isN_val r]
  obtain ⟨k, s⟩ := r.store
  exact g1 _ _ (Res.ofD k s rl_bl)
/-! ### argument lists -/
theorem sA_nil : SoundA I n N sc [] .nil := by
  intro X W hc ρ S as σ H Q he hs g
  unfold evh at g
  exact pa_nil.wp (g [] H .refl hs (by unfold vrels; rfl))
theorem vrels.keep {K : PySem.W.Frag} {ct : CT} {H' : Hp} (k : Keep as H H') : ∀ {xs : List RV} {vs : List V}, vrels K ct as H xs vs → vrels K ct as H' xs vs
  | [], _, r => r
  | x :: xs, vs, r => by
    unfold vrels at r ⊢
    obtain ⟨v, q, e, r1, r2⟩ := r
    exact ⟨v, q, e, r1.keep k, vrels.keep k r2⟩
theorem vrels.append {K : PySem.W.Frag} {ct : CT} : ∀ {xs ys : List RV} {vs ws : List V}, vrels K ct as H xs vs → vrels K ct as H ys ws → vrels K ct as H (xs ++ ys) (vs ++ ws)
  | [], _, _, _, r, q => by unfold vrels at r; rw [r]; exact q
  | x :: xs, _, _, _, r, q => by
    unfold vrels at r
    obtain ⟨v, z, rfl, r1, r2⟩ := r
    show vrels K ct as H (x :: (xs ++ _)) (v :: (z ++ _))
    unfold vrels
    exact ⟨v, _, rfl, r1, vrels.append r2 q⟩
theorem vrels.of_rels {K : PySem.W.Frag} {ct : CT} : ∀ {ds : List D} {vs : List V}, rels K ct as H ds vs → vrels K ct as H (ds.map .d) vs
  | [], _, r => by unfold rels at r; rw [r]; unfold vrels; rfl
  | d :: ds, _, r => by
    unfold rels at r
    obtain ⟨v, z, rfl, r1, r2⟩ := r
    show vrels K ct as H (RV.d d :: ds.map .d) (v :: z)
    unfold vrels
    exact ⟨v, _, rfl, r1, vrels.of_rels r2⟩
theorem sA_cons {es : List Expr} {Es : MI.Es} (sa : SoundE I n N sc a A) (sr : SoundA I n N sc es Es) (h : isStar a = false) : SoundA I n N sc (a :: es) (.cons false A Es) := by
  intro X W hc ρ S as σ H Q he hs g
  refine (pa_cons (pe_wp (X := X) (e := a)) (pa_wp (X := X) (es := es)) (star_plain h)).wp ?_
  unfold evh at g
  refine sa.hand_ hc he hs g fun x S1 v1 H1 k1 s1 r1 g1 => ?_
  rw [if_neg Bool.false_ne_true] at g1
  refine sr X W hc ρ S1 as σ H1 _ (he.keep k1) s1 (g1.bind.imp fun rvs S2 g2 vs H2 k2 s2 r2 => ?_)
  exact g2 (v1 :: vs) H2 (k1.tr k2) s2 (by unfold vrels; exact ⟨v1, vs, rfl, r1.keep k2, r2⟩)
theorem sA_star {es : List Expr} {Es : MI.Es} {p : Pos} (sa : SoundE I n N sc a A) (sr : SoundA I n N sc es Es) : SoundA I n N sc (.Starred a p :: es) (.cons true A Es) := by
  intro X W hc ρ S as σ H Q he hs g
  refine (StX.pa_star (pe_wp (X := X) (e := a)) (pa_wp (X := X) (es := es)) rfl).wp ?_
  unfold evh at g
  refine sa.hand_ hc he hs g fun x S1 v1 H1 k1 s1 r1 g1 => ?_
  rw [if_pos rfl] at g1
  obtain ⟨xs, e, g2⟩ := Good.of g1.bind
  cases hx : x.see S1 with
  | none => rw [hx] at e; cases e
  | some d =>
    rw [hx] at e
    have sx := seen s1 r1 hx
    have fin : ∀ (p : Addr) (ws : List V), v1 = .ref p → (SqT X.K H1 p ws ∨ SqL X.K H1 p ws) → rels X.K I.ct as H1 xs ws → ∃ p xs, v1 = V.ref p ∧ (SqT X.K H1 p xs ∨ SqL X.K H1 p xs) ∧ wpA X es σ H1 fun ys H2 => Q (xs ++ ys) H2 := fun p ws e1 e2 e3 => by
      refine ⟨p, ws, e1, e2, ?_⟩
      refine sr X W hc ρ S1 as σ H1 _ (he.keep k1) s1 (g2.bind.imp fun rvs S2 g3 vs H2 k2 s2 r2 => ?_)
      exact g3 (ws ++ vs) H2 (k1.tr k2) s2 ((vrels.of_rels (e3.keep k2)).append r2)
    have e' : d.seq = some xs := e
    cases d <;> first | (cases e'; done) | skip
    · cases e'
      obtain ⟨p, ws, h1, h2, h3⟩ := sr_tup sx
      exact fin p ws h1 (.inl h2) h3
    · cases e'
      obtain ⟨p, ws, h1, h2, h3⟩ := sx
      exact fin p ws h1 (.inr (SqL.of h2)) h3
/-! ### displays -/
theorem vdata {K : PySem.W.Frag} {ct : CT} : ∀ {rvs : List RV} {vs : List V} {ds : List D}, vrels K ct as H rvs vs → rvs.mapM RV.data = some ds → rels K ct as H ds vs
  | [], vs, ds, r, e => by
    cases e
    unfold vrels at r
    rw [r]
    exact rels.nil
  | x :: xs, vs, ds, r, e => by
    unfold vrels at r
    obtain ⟨v, q, rfl, r1, r2⟩ := r
    rw [List.mapM_cons] at e
    cases h1 : x.data with
    | none => rw [h1] at e; cases e
    | some d =>
      rw [h1] at e
      cases h2 : xs.mapM RV.data with
      | none => rw [h2] at e; cases e
      | some es =>
        rw [h2] at e
        cases e
        refine rels.cons ?_ (vdata r2 h2)
        cases x with
        | d x => cases h1; exact r1
        | r n => cases h1
        | new c => exact r1.elim
theorem sE_tup {es : List Expr} {Es : MI.Es} {k : Nat} (sr : SoundA I n N sc es Es) : SoundE I n N sc (.Tuple es k pos) (.tup Es) := by
  intro X W hc ρ S as σ H Q he hs g
  refine (pe_tup (pa_wp (X := X) (es := es))).wp ?_
  unfold ev at g
  refine sr X W hc ρ S as σ H _ he hs (g.bind.imp fun rvs S2 g2 vs H2 k2 s2 r2 => ?_)
  obtain ⟨rv, e, q⟩ := Good.of g2
  cases h : rvs.mapM RV.data with
  | none => rw [h] at e; cases e
  | some ds =>
    rw [h] at e
    have e' : (if ds.length ≤ lim then some (RV.d (.tup ds)) else none) = some rv := e
    split at e'
    · rename_i hl
      cases e'
      have r3 := vdata r2 h
      exact ⟨by rw [← r3.length, ← lim_eq]; exact hl, fun p hp => out_tup s2 (ResQ.mono k2 q) r3 hp⟩
    · cases e'
theorem sE_lst {es : List Expr} {Es : MI.Es} (sr : SoundA I n N sc es Es) : SoundE I n N sc (.List es pos) (.lst Es) := by
  intro X W hc ρ S as σ H Q he hs g
  refine (pe_lst (pa_wp (X := X) (es := es))).wp ?_
  unfold ev at g
  refine sr X W hc ρ S as σ H _ he hs (g.bind.imp fun rvs S2 g2 vs H2 k2 s2 r2 => ?_)
  obtain ⟨rv, e, q⟩ := Good.of g2
  cases h : rvs.mapM RV.data with
  | none => rw [h] at e; cases e
  | some ds =>
    rw [h] at e
    have e' : (if ds.length ≤ lim then some (RV.new (.lst ds)) else none) = some rv := e
    split at e'
    · rename_i hl
      cases e'
      have r3 := vdata r2 h
      exact ⟨by rw [← r3.length, ← lim_eq]; exact hl, fun p hp => out_new s2 (ResQ.mono k2 q) r3 hp⟩
    · cases e'
end
end MI
set_option linter.all false
set_option Elab.async false
set_option maxRecDepth 100000
set_option maxHeartbeats 1000000
namespace MI
open PySem PySem.Spec PyProof.Rows L2
def biName : Bi → Str
  | .len => "len"
  | .sum => "sum"
  | .min => "min"
  | .max => "max"
  | .all => "all"
  | .any => "any"
  | .sorted => "sorted"
  | .tuple => "tuple"
  | .list => "list"
  | .int => "int"
  | .str => "str"
  | .abs => "abs"
  | .lenSet => "len"
  | .sortSet => "sorted"
  | _ => ""
theorem bi_boot : ∀ (b : Bi) (fn : Value), biFn b = some fn → bootBuiltins (biName b) = some fn ∧ biName b ∈ biNames ∧ biName b ≠ "__name__" ∧ (biName b == ("__debug__" : Str)) = false := by
  intro b fn h
  cases b <;> first
    | (cases h; done)
    | (cases h; exact ⟨by decide +kernel, by decide +kernel, by decide +kernel, by decide +kernel⟩)
section
variable {I : Info} {n : Nat} {N : List Str} {sc : Scope} {X : Cx} {W : WX} {ρ : Rho} {S : Sto} {as : List Addr} {σ : L2.St} {H : Hp} {Q : VK} {a b c : Expr} {A B C : E} {pos p : Pos}
theorem Cn.gl (hc : Cn I n N sc X W) {x : Str} (h : sc.names.lookup x = some .globalImplicit) : Gl X x := by
  show X.env.scope.names.lookup x = _
  rw [hc.hsc]; exact h
/-- what a built-in's call comes to -/
theorem bi_end (hy : Hyp I n) (hc : Cn I n N sc X W) {b : Bi} {fn : Value} (hf : biFn b = some fn) {es : List Expr} {Es : MI.Es} (sr : SoundA I n N sc es Es) (he : EnvOk X.K I.ct as H ρ σ) (hs : SRel X.K I.ct as H S)
    (g : Good X.K I.ct W as (ev (I.g n) (.bi b Es) ρ S) H σ (ResQ X.K I.ct as H Q)) : tCB (wpC X fn) (wpA X es) σ H Q := by
  unfold ev R.seeN at g
  refine sr X W hc ρ S as σ H _ he hs (g.bind.imp fun rvs S2 g2 vs H2 k2 s2 r2 => ?_)
  obtain ⟨rv, e, q⟩ := Good.of g2
  cases h : rvs.mapM (RV.see S2) with
  | none => rw [h] at e; cases e
  | some ds =>
    rw [h] at e
    exact hy.bi b fn hf N sc X W hc as H2 S2 Q ds vs rv (vseen s2 r2 h) s2 e (ResQ.mono k2 q)
theorem sE_bi (hy : Hyp I n) {b : Bi} {fn : Value} (hf : biFn b = some fn) {e : Expr} {es : List Expr} {Es : MI.Es} (sr : SoundA I n N sc (e :: es) Es) (hst : (e :: es).all (fun e => !isStar e) = true)
    (hg : sc.names.lookup (biName b) = some .globalImplicit) : SoundE I n N sc (.Call (.Name (biName b) p) (e :: es) [] pos) (.bi b Es) := by
  intro X W hc ρ S as σ H Q he hs g
  obtain ⟨h1, h2, h3, h4⟩ := bi_boot b fn hf
  have hst' := hst
  rw [List.all_cons, Bool.and_eq_true] at hst'
  have hm := hc.wf.bi _ h2
  have e1 : starEach (e :: es) X.env = (false, eval e X.env) :: starEach es X.env := star_plain (by simpa using hst'.1)
  have e2 : (backTo pos (starEach es X.env)).any (·.1) = false := back_none hst'.2
  have fin := bi_end hy hc hf sr he hs g
  have kind : (∃ id, fn = .builtin id) ∨ ∃ T, fn = .type T := by
    cases b <;> first | (cases hf; done) | (cases hf; exact .inl ⟨_, rfl⟩) | (cases hf; exact .inr ⟨_, rfl⟩)
  rcases kind with ⟨id, rfl⟩ | ⟨T, rfl⟩
  · exact (pe_callB (X := X) (r := wpC X (.builtin id)) call_wp (hc.gl hg) hm h1 (pa_wp (X := X) (es := e :: es)) h3 h4 e1 e2).wp fin
  · exact (pe_callTy (X := X) (r := wpC X (.type T)) call_wp (hc.gl hg) hm h1 (pa_wp (X := X) (es := e :: es)) h3 h4 e1 e2).wp fin
end
end MI
set_option linter.all false
set_option Elab.async false
set_option maxRecDepth 100000
set_option maxHeartbeats 1000000
namespace MI
open PySem PySem.Spec PyProof.Rows L2
section
variable {I : Info} {n : Nat} {N : List Str} {sc : Scope} {X : Cx} {W : WX} {ρ : Rho} {S : Sto} {as : List Addr} {σ : L2.St} {H : Hp} {Q : VK} {a b c : Expr} {A B C : E} {pos p p2 pos2 : Pos}
/-! ### len(set(e)), sorted(set(e)) -/
theorem boot_set' : bootBuiltins ("set" : Str) = some (.type "set") := by decide +kernel
theorem set_end {b : Bi} {id : String} (hr : RuleS I n (biD I.T.sub b) (.builtin id)) (hc : Cn I n N sc X W) {e : Expr} {Es : MI.Es} (sr : SoundA I n N sc [e] Es) (hst : isStar e = false) (hgs : sc.names.lookup ("set" : Str) = some .globalImplicit)
    (he : EnvOk X.K I.ct as H ρ σ) (hs : SRel X.K I.ct as H S) (g : Good X.K I.ct W as (ev (I.g n) (.bi b Es) ρ S) H σ (ResQ X.K I.ct as H Q)) :
    tCB (wpC X (.builtin id)) (tCons (wpE X (.Call (.Name "set" p) [e] [] pos)) tNil) σ H Q := by
  unfold ev R.seeN at g
  show wpE X (.Call (.Name "set" p) [e] [] pos) σ H fun x H1 => wpC X (.builtin id) [x] H1 Q
  refine (pe_callTy (X := X) (r := wpC X (.type "set")) call_wp (hc.gl hgs) (hc.wf.bi _ (by decide +kernel)) boot_set' (pa_wp (X := X) (es := [e])) (by decide +kernel) (by decide +kernel) (star_plain hst) rfl).wp ?_
  refine sr X W hc ρ S as σ H _ he hs (g.bind.imp fun rvs S2 g2 vs H2 k2 s2 r2 => ?_)
  obtain ⟨rv, e, q⟩ := Good.of g2
  cases h : rvs.mapM (RV.see S2) with
  | none => rw [h] at e; cases e
  | some ds =>
    rw [h] at e
    exact hr N sc X W hc as H2 S2 Q ds vs rv (vseen s2 r2 h) s2 e (ResQ.mono k2 q)
theorem boot_len' : bootBuiltins ("len" : Str) = some (.builtin "len") := by decide +kernel
theorem boot_sorted' : bootBuiltins ("sorted" : Str) = some (.builtin "sorted") := by decide +kernel
theorem sE_lenSet (hy : Hyp I n) {e : Expr} {Es : MI.Es} (sr : SoundA I n N sc [e] Es) (hst : isStar e = false) (hgl : sc.names.lookup ("len" : Str) = some .globalImplicit) (hgs : sc.names.lookup ("set" : Str) = some .globalImplicit) :
    SoundE I n N sc (.Call (.Name "len" p) [.Call (.Name "set" p2) [e] [] pos2] [] pos) (.bi .lenSet Es) := by
  intro X W hc ρ S as σ H Q he hs g
  exact (pe_callB (X := X) (r := wpC X (.builtin "len")) call_wp (hc.gl hgl) (hc.wf.bi _ (by decide +kernel)) boot_len' (pa_cons (pe_wp (X := X) (e := .Call (.Name "set" p2) [e] [] pos2)) pa_nil rfl) (by decide +kernel) (by decide +kernel) rfl rfl).wp
    (set_end (b := .lenSet) hy.lenSet hc sr hst hgs he hs g)
theorem sE_sortSet (hy : Hyp I n) {e : Expr} {Es : MI.Es} (sr : SoundA I n N sc [e] Es) (hst : isStar e = false) (hgl : sc.names.lookup ("sorted" : Str) = some .globalImplicit) (hgs : sc.names.lookup ("set" : Str) = some .globalImplicit) :
    SoundE I n N sc (.Call (.Name "sorted" p) [.Call (.Name "set" p2) [e] [] pos2] [] pos) (.bi .sortSet Es) := by
  intro X W hc ρ S as σ H Q he hs g
  exact (pe_callB (X := X) (r := wpC X (.builtin "sorted")) call_wp (hc.gl hgl) (hc.wf.bi _ (by decide +kernel)) boot_sorted' (pa_cons (pe_wp (X := X) (e := .Call (.Name "set" p2) [e] [] pos2)) pa_nil rfl) (by decide +kernel) (by decide +kernel) rfl rfl).wp
    (set_end (b := .sortSet) hy.sortSet hc sr hst hgs he hs g)
/-! ### calls of the text's own defs -/
theorem pe_callS0 {CX : CXT} {k : Nat} {f : Addr} {fd : FuncData} {ps : List Str} {sp : Sp} {E : L2.St → XK} {x : Str} (F : FnOk X.prog X.w X.K X.mg X.base CX k f fd ps sp) (hr : Room k X.A) (hg : Gl X x) (hm : X.mg x = some (.ref f)) (hk : PySem.W.keepIn X.K (.ref f) = true) (hb : Binds X.K fd ps []) (hx : ∀ σ, PassesAt CX X σ (E σ))
    (hdb : (x == ("__debug__" : Str)) = false) : PE X (.Call (.Name x p) [] [] pos) (tCallS sp E tNil) := by
  refine ⟨fun pins s σ H Q I h => ?_⟩
  refine wpAny_Call_Name_kw (ld_glob I hg hm ?_ hdb)
  exact PySem.W.callWith_K0 I.kIn hk (run_fnS (us := []) F hr hb (hx σ) I .nil h)
/-- the promise of a def, from what the mirror says -/
theorem sp_of {f : Nat} {rvs : List RV} {vs : List V} (r : vrels X.K I.ct as H rvs vs) (s : SRel X.K I.ct as H S) (g : Good X.K I.ct W as ((I.g n).call f rvs S) H σ (ResQ X.K I.ct as H Q)) : spM I X.K n f vs H Q (WE W σ) := by
  refine ⟨rvs, S, as, r, s, ?_⟩
  have g' : Good X.K I.ct W as (callN I.T n f rvs S) H σ (ResQ X.K I.ct as H Q) := g
  cases h : callN I.T n f rvs S with
  | ok rv S' => rw [h] at g'; exact g'
  | exc c fs S' => rw [h] at g'; exact g'
  | fail => rw [h] at g'; exact g'
theorem call_some {T : Txt} {n f : Nat} {rvs : List RV} {S : Sto} (h : callN T n f rvs S ≠ .fail) : ∃ fd, T.fds[f]? = some fd := by
  cases n with
  | zero => exact (h rfl).elim
  | succ n =>
    cases e : T.fds[f]? with
    | none => exact (h (by unfold callN; rw [e])).elim
    | some fd => exact ⟨fd, rfl⟩
theorem Good.no_fail {K : PySem.W.Frag} {ct : CT} {α : Type} {m : R α} {q : α → Sto → Prop} (g : Good K ct W as m H σ q) : m ≠ .fail := fun e => by rw [e] at g; exact g
theorem sE_call0 {f : Nat} {x : Str} (hf : I.fnm[f]? = some (some x)) (hlt : (I.T.fds[f]?).isSome = true) (hg : sc.names.lookup x = some .globalImplicit) (hdb : (x == ("__debug__" : Str)) = false) :
    SoundE I n N sc (.Call (.Name x p) [] [] pos) (.call f .nil) := by
  intro X W hc ρ S as σ H Q he hs g
  obtain ⟨fd, hfd⟩ := Option.isSome_iff_exists.mp hlt
  obtain ⟨hm, hk⟩ := hc.wf.gl f x hf
  have F := hc.wf.fns f fd hfd
  have hr : Room (2 * n + 1) X.A := hc.room.mono (by omega)
  refine (pe_callS0 (X := X) F hr (hc.gl hg) hm hk (hc.wf.bnd f fd hfd) (fun σ => passAt hc.tk σ) hdb).wp ?_
  unfold ev evh at g
  exact sp_of (rvs := []) (by unfold vrels; rfl) hs g
theorem sE_call {f : Nat} {x : Str} {e : Expr} {es : List Expr} {Es : MI.Es} (hf : I.fnm[f]? = some (some x)) (hlt : (I.T.fds[f]?).isSome = true) (sr : SoundA I n N sc (e :: es) Es) (hst : (e :: es).all (fun e => !isStar e) = true) (hg : sc.names.lookup x = some .globalImplicit) (hdb : (x == ("__debug__" : Str)) = false) :
    SoundE I n N sc (.Call (.Name x p) (e :: es) [] pos) (.call f Es) := by
  intro X W hc ρ S as σ H Q he hs g
  obtain ⟨fd, hfd⟩ := Option.isSome_iff_exists.mp hlt
  obtain ⟨hm, hk⟩ := hc.wf.gl f x hf
  have F := hc.wf.fns f fd hfd
  have hr : Room (2 * n + 1) X.A := hc.room.mono (by omega)
  have rd : wpA X (e :: es) σ H fun vs H1 => spM I X.K n f vs H1 Q (WE W σ) := by
    unfold ev at g
    refine sr X W hc ρ S as σ H _ he hs (g.bind.imp fun rvs S2 g2 vs H2 k2 s2 r2 => ?_)
    exact sp_of r2 s2 (ResQ.back k2 (Good.mono k2 g2))
  have hst' := hst
  rw [List.all_cons, Bool.and_eq_true] at hst'
  exact (pe_callS (X := X) F hr (hc.gl hg) hm hk (hc.wf.bnd f fd hfd) (fun σ => passAt hc.tk σ) (pa_wp (X := X) (es := e :: es)) hdb (star_plain (by simpa using hst'.1)) (back_none hst'.2)).wp rd
/-! ### subscripts, slices -/
theorem ix_eq (n : Nat) (i : Int) : ixAt n i = ixN n i := rfl
theorem cutIx_eq (n d : Nat) (o : Option Int) : cutIx n d o = HT.sIx n d o := by
  cases o <;> rfl
theorem cut_eq (xs : List V) (lo hi : Option Int) : cut xs lo hi = cutV xs lo hi := by
  unfold cut cutV
  rw [cutIx_eq, cutIx_eq]
theorem rels_at {K : PySem.W.Frag} {ct : CT} {xs : List D} {vs : List V} {i : Int} {d : D} (r : rels K ct as H xs vs) (e : ((ixAt xs.length i).bind fun j => xs[j]?) = some d) : ∃ v, atI vs i = some v ∧ rel K ct as H d v := by
  rw [ix_eq] at e
  cases h : ixN xs.length i with
  | none => rw [h] at e; cases e
  | some j =>
    rw [h] at e
    obtain ⟨v, h1, h2⟩ := r.get (show xs[j]? = some d from e)
    refine ⟨v, ?_, h2⟩
    unfold atI
    rw [← r.length, h]
    exact h1
theorem sE_sub (sa : SoundE I n N sc a A) (sb : SoundE I n N sc b B) (hs2 : isSlice b = false) : SoundE I n N sc (.Subscript a b pos) (.sub A B) := by
  intro X W hc ρ S as σ H Q he hs g
  refine (pe_ix (X := X) ix_seq (pe_wp (X := X) (e := a)) (pe_wp (X := X) (e := b)) (ix_plain hs2)).wp ?_
  unfold ev at g
  refine sa.hand_ hc he hs g fun x S1 v1 H1 k1 s1 r1 g1 => ?_
  refine sb.then_ hc (he.keep k1) s1 g1 fun y S2 v2 H2 r2 g2 => ?_
  obtain ⟨rv, e, q⟩ := Good.of g2
  obtain ⟨k2, s2⟩ := r2.store
  have q' := ResQ.mono (k1.tr k2) q
  cases hx : x.see S2 with
  | none => rw [hx] at e; cases e
  | some dx =>
    rw [hx] at e
    have sx := seen s2 (r1.keep k2) hx
    cases hyy : y.see S2 with
    | none => rw [hyy] at e; cases e
    | some dy =>
      rw [hyy] at e
      have e' : (subD dx dy).map RV.d = some rv := e
      cases hd : subD dx dy with
      | none => rw [hd] at e'; cases e'
      | some d =>
        rw [hd] at e'
        cases e'
        have vi : ∀ i, dy = .int i → v2 = .int i := fun i ei => by
          subst ei
          cases y with
          | d d => cases hyy; exact vr_int r2.2.2
          | r n =>
            have z : RV.see S2 (.r n) = some (.int i) := hyy
            unfold RV.see at z
            split at z
            · rename_i z1; cases z1
            · rename_i z1; cases z1
            · split at z <;> cases z
          | new c =>
            have z : c.freeze = some (.int i) := hyy
            cases c <;> first | (cases z; done) | skip
            rename_i kvs
            cases kvs <;> cases z
        unfold subD at hd
        split at hd
        · rename_i xs i
          obtain ⟨p, ws, rfl, h1, h2⟩ := sx
          obtain ⟨v, h3, h4⟩ := rels_at h2 hd
          rw [vi _ rfl]
          exact .inl ⟨p, ws, i, v, rfl, rfl, SqL.of h1, h3, q' v H2 (Res.ofD .refl s2 h4)⟩
        · rename_i xs i
          obtain ⟨p, ws, rfl, h1, h2⟩ := sr_tup sx
          obtain ⟨v, h3, h4⟩ := rels_at h2 hd
          rw [vi _ rfl]
          exact .inr (.inl ⟨p, ws, i, v, rfl, rfl, h1, h3, q' v H2 (Res.ofD .refl s2 h4)⟩)
        · split at hd
          · rename_i xs i hl
            cases hc2 : (ixAt xs.length i).bind fun j => xs[j]? with
            | none => rw [hc2] at hd; cases hd
            | some c =>
              rw [hc2] at hd
              cases hd
              rw [sr_str sx, vi _ rfl]
              refine .inr (.inr ⟨⟨xs.toArray⟩, i, c, rfl, rfl, ?_, ?_, ?_⟩)
              · show xs.toArray.size ≤ sizeLine
                rw [← lim_eq]; simpa using hl
              · show atI xs.toArray.toList i = some c
                unfold atI
                rw [List.toList_toArray, ← ix_eq]
                exact hc2
              · exact q' _ H2 (Res.ofD .refl s2 rl_str)
          · cases hd
        · cases hd
end
end MI
set_option linter.all false
set_option Elab.async false
set_option maxRecDepth 100000
set_option maxHeartbeats 1000000
namespace MI
open PySem PySem.Spec PyProof.Rows L2
section
variable {I : Info} {n : Nat} {N : List Str} {sc : Scope} {X : Cx} {W : WX} {ρ : Rho} {S : Sto} {as : List Addr} {σ : L2.St} {H : Hp} {Q : VK} {a b c : Expr} {A B C : E} {pos p p2 pos2 : Pos}
/-- a slice's bound -/
def SoundP (I : Info) (n : Nat) (N : List Str) (sc : Scope) (e : Option Expr) (O : MI.O) : Prop := ∀ (X : Cx) (W : WX), Cn I n N sc X W → ∃ t : TO, PO X e t ∧ ∀ ρ S as σ H (R1 : Option Int → Hp → Prop), EnvOk X.K I.ct as H ρ σ → SRel X.K I.ct as H S →
  Good X.K I.ct W as (evP (I.g n) O ρ S) H σ (fun o S' => ∀ H', Keep as H H' → SRel X.K I.ct as H' S' → R1 o H') → t σ H R1
theorem sP_none : SoundP I n N sc none .no := fun X W hc => ⟨_, po_none, fun ρ S as σ H R1 he hs g => by
  unfold evP at g
  exact g H .refl hs⟩
theorem sP_some (sa : SoundE I n N sc a A) : SoundP I n N sc (some a) (.yes A) := fun X W hc => ⟨_, po_some (pe_wp (X := X) (e := a)), fun ρ S as σ H R1 he hs g => by
  unfold evP at g
  refine sa.then_ hc he hs g fun rv S1 v H1 r g1 => ?_
  split at g1
  · rename_i i
    obtain ⟨k, s⟩ := r.store
    exact ⟨i, vr_int r.2.2, g1 H1 k s⟩
  · exact g1.elim⟩
theorem rels_cut {K : PySem.W.Frag} {ct : CT} {xs : List D} {vs : List V} (r : rels K ct as H xs vs) (lo hi : Option Int) : rels K ct as H (cut xs lo hi) (cutV vs lo hi) := by
  rw [← cut_eq]
  unfold cut
  rw [r.length]
  exact (r.drop _).take _
theorem sE_slice (sa : SoundE I n N sc a A) {lo hi : Option Expr} {L U : MI.O} (sl : SoundP I n N sc lo L) (su : SoundP I n N sc hi U) : SoundE I n N sc (.Subscript a (.Slice lo hi none p2) pos) (.slice A L U) := by
  intro X W hc ρ S as σ H Q he hs g
  obtain ⟨tl, hl, ll⟩ := sl X W hc
  obtain ⟨tu, hu, uu⟩ := su X W hc
  refine (pe_slice (X := X) (SlR.or (SlR.or sl_list sl_tupA) sl_str) (pe_wp (X := X) (e := a)) hl hu).wp ?_
  unfold ev at g
  refine sa.hand_ hc he hs g fun x S1 v1 H1 k1 s1 r1 g1 => ?_
  refine ll ρ S1 as σ H1 _ (he.keep k1) s1 (g1.bind.imp fun l S2 g2 H2 k2 s2 => ?_)
  refine uu ρ S2 as σ H2 _ ((he.keep k1).keep k2) s2 ((Good.mono k2 g2.bind).imp fun h S3 g3 H3 k3 s3 => ?_)
  obtain ⟨rv, e, q⟩ := Good.of g3
  have q' := ResQ.mono ((k1.tr k2).tr k3) q
  have r3 := (r1.keep k2).keep k3
  cases hx : x.see S3 with
  | none => rw [hx] at e; cases e
  | some dx =>
    rw [hx] at e
    have sx := seen s3 r3 hx
    have e' : sliceD l h dx = some rv := e
    unfold sliceD at e'
    split at e'
    · cases e'
      obtain ⟨p, ws, rfl, h1, h2⟩ := sx
      exact .inl (.inl ⟨p, ws, rfl, SqL.of h1, fun q hq => out_new s3 q' (rels_cut h2 l h) hq⟩)
    · rename_i xs
      cases e'
      obtain ⟨p, ws, rfl, h1, h2⟩ := sr_tup sx
      refine .inl (.inr ⟨p, ws, rfl, h1, fun hz => ?_, fun hz q hq => out_tup s3 q' (rels_cut h2 l h) hq⟩)
      have ec : cut xs l h = xs := by
        unfold cut
        rw [cutIx_eq, cutIx_eq, h2.length, hz.1, hz.2, List.drop_zero, Nat.sub_zero, ← h2.length, List.take_length]
      rw [ec] at q'
      exact q' _ H3 (Res.ofD .refl s3 sx)
    · split at e'
      · rename_i xs hl2
        cases e'
        rw [sr_str sx]
        refine .inr ⟨⟨xs.toArray⟩, rfl, ?_, ?_⟩
        · show xs.toArray.size ≤ sizeLine
          rw [← lim_eq]; simpa using hl2
        · have ec : cutS ⟨xs.toArray⟩ l h = ⟨(cut xs l h).toArray⟩ := by
            first
              | rfl
              | (unfold cutS cut; simp [cutIx_eq, Str.length])
          rw [ec]
          exact q' _ H3 (Res.ofD .refl s3 rl_str)
      · cases e'
    · cases e'
/-! ### minus, chains, is True -/
theorem sE_neg (sa : SoundE I n N sc a A) : SoundE I n N sc (.UnaryOp .USub a pos) (.neg A) := by
  intro X W hc ρ S as σ H Q he hs g
  refine (pe_un un_neg (pe_wp (X := X) (e := a))).wp ?_
  unfold ev at g
  refine sa.then_ hc he hs g fun rv S1 v H1 r g1 => ?_
  split at g1
  · rename_i i
    obtain ⟨k, s⟩ := r.store
    exact ⟨i, vr_int r.2.2, g1 _ _ (Res.ofD k s rl_int)⟩
  · exact g1.elim
theorem good_bool {m : R RV} {α : Type} {f : Bool → Sto → R α} {q : α → Sto → Prop} {Qb : Bool → Hp → Prop} (g : Good X.K I.ct W as ((tst m).bind f) H σ q) (h : ∀ b S' H', Keep as H H' → SRel X.K I.ct as H' S' → Good X.K I.ct W as (f b S') H' σ q → Qb b H') :
    Good X.K I.ct W as m H σ (ResQ X.K I.ct as H fun v H' => ∃ b, v = .bl b ∧ Qb b H') := by
  rw [tst_bind] at g
  refine g.bind.imp fun rv S' g1 v H' r => ?_
  obtain ⟨b, e, q⟩ := Good.of (Good.mono r.1 g1).bind
  unfold RV.isTrue at e
  split at e
  · cases e
    obtain ⟨k1, s1, r1⟩ := r.hand rfl
    exact ⟨b, vr_bl r1, h b S' H' k1 s1 q⟩
  · cases e
theorem chain_ok (hy : Hyp I n) (hdi : DictIn I n) (hc : Cn I n N sc X W) (sa : SoundE I n N sc a A) (sb : SoundE I n N sc b B) (sc3 : SoundE I n N sc c C) {o o2 : Op} (he : EnvOk X.K I.ct as H ρ σ) (hs : SRel X.K I.ct as H S)
    (g : Good X.K I.ct W as (ev (I.g n) (.chain o o2 A B C) ρ S) H σ (ResQ X.K I.ct as H Q)) : tChain (wpOp X (opFn o)) (wpOp X (opFn o2)) (wpE X a) (wpE X b) (wpE X c) σ H Q := by
  unfold ev at g
  refine sa.hand_ hc he hs g fun x S1 v1 H1 k1 s1 r1 g1 => ?_
  refine sb.hand_ hc (he.keep k1) s1 g1 fun y S2 v2 H2 k2 s2 r2 g2 => ?_
  have g3 := good_bool (Qb := fun k H3 => if k = true then wpE X c σ H3 fun w' H4 => wpOp X (opFn o2) v2 w' H4 Q else Q (.bl false) H3) g2 fun k S3 H3 k3 s3 g4 => ?_
  · exact opR_ok hy hc s2 (r1.keep k2) r2 (fun k kvs dx e hk hx g => by subst e; exact hdi o N sc X W hc as H2 S2 _ σ x k kvs dx v1 v2 (r1.keep k2) r2 s2 hk hx g) g3
  · cases k with
    | true =>
      rw [if_pos rfl] at g4 ⊢
      refine sc3.then_ hc (((he.keep k1).keep k2).keep k3) s3 g4 fun z S4 v4 H4 r4 g5 => ?_
      cases hh : z.hand with
      | none =>
        rw [opR_fail hh] at g5
        exact g5.elim
      | some z' =>
        rw [opR_hand hh] at g5
        obtain ⟨k4, s4, r5⟩ := r4.hand hh
        have g6 := ResQ.back (((k1.tr k2).tr k3).tr k4) g5
        have r2' := (r2.keep k3).keep k4
        exact opR_ok hy hc s4 r2' r5 (fun k kvs dx e hk hx g => by subst e; exact hdi o2 N sc X W hc as H4 S4 Q σ y k kvs dx v2 v4 r2' r5 s4 hk hx g) g6
    | false =>
      rw [if_neg Bool.false_ne_true] at g4 ⊢
      exact g4 _ _ (Res.ofD ((k1.tr k2).tr k3) s3 rl_bl)
theorem lastMarks_plain {o o2 : CmpOp} (hb : isSet c = false) : lastMarks [o, o2] [b, c] = false := mark_plain hb
theorem sE_chain (hy : Hyp I n) (hdi : DictIn I n) (sa : SoundE I n N sc a A) (sb : SoundE I n N sc b B) (sc3 : SoundE I n N sc c C) {op op2 : CmpOp} {o o2 : Op} (h : cmpOf op = some o) (h2 : cmpOf op2 = some o2) (hb : isSet c = false) :
    SoundE I n N sc (.Compare a [op, op2] [b, c] pos) (.chain o o2 A B C) := by
  intro X W hc ρ S as σ H Q he hs g
  refine (pe_chain (r := wpOp X (opFn o)) (r' := wpOp X (opFn o2)) (by rw [cmpOf_fn h]; exact op_wp) (by rw [cmpOf_fn h2]; exact op_wp) (pe_wp (X := X) (e := a)) (pe_wp (X := X) (e := b)) (pe_wp (X := X) (e := c)) (lastMarks_plain hb)).wp ?_
  exact chain_ok hy hdi hc sa sb sc3 he hs g
theorem sT_chain (hy : Hyp I n) (hdi : DictIn I n) (sa : SoundE I n N sc a A) (sb : SoundE I n N sc b B) (sc3 : SoundE I n N sc c C) {op op2 : CmpOp} {o o2 : Op} (h : cmpOf op = some o) (h2 : cmpOf op2 = some o2) (hb : isSet c = false) :
    SoundT I n N sc (.Compare a [op, op2] [b, c] pos) (fun ρ S => tst (ev (I.g n) (.chain o o2 A B C) ρ S)) := by
  intro X W hc ρ S as σ H Q he hs g
  refine (pt_chain (r := wpOp X (opFn o)) (r' := wpOp X (opFn o2)) (by rw [cmpOf_fn h]; exact op_wp) (by rw [cmpOf_fn h2]; exact op_wp) (pe_wp (X := X) (e := a)) (pe_wp (X := X) (e := b)) (pe_wp (X := X) (e := c)) (lastMarks_plain hb)).wp ?_
  exact chain_ok hy hdi hc sa sb sc3 he hs (good_tst g)
/-- reversed lists -/
theorem sE_rev {k : Nat} {p1 p3 : Pos} (sa : SoundE I n N sc a A) : SoundE I n N sc (.Subscript a (.Slice none none (some (.UnaryOp .USub (.Constant (.int 1) k p1) p2)) p3) pos) (.rev A) := by
  intro X W hc ρ S as σ H Q he hs g
  refine (pe_revL (X := X) (pe_wp (X := X) (e := a))).wp ?_
  unfold ev at g
  refine sa.then_ hc he hs g fun x S1 v1 H1 r1 g1 => ?_
  obtain ⟨rv, e, q⟩ := Good.of g1
  have q' := ResQ.mono r1.1 q
  cases hx : x.see S1 with
  | none => rw [hx] at e; cases e
  | some dx =>
    rw [hx] at e
    have e' : revD dx = some rv := e
    unfold revD at e'
    split at e'
    · rename_i xs
      cases e'
      obtain ⟨k, s⟩ := r1.store
      have sx : srel X.K I.ct as H1 (.lst xs) v1 := by
        cases x with
        | d d => exact seen s r1.2.2 hx
        | r n => exact seen s r1.2.2 hx
        | new c =>
          obtain ⟨_, a1, rfl, _, q1⟩ := r1
          exact rel.s (frozen q1 hx)
      obtain ⟨p, ws, rfl, h1, h2⟩ := sx
      exact ⟨p, ws, rfl, SqL.of h1, fun q hq => out_new s q' h2.reverse hq⟩
    · cases e'
end
end MI
set_option linter.all false
set_option Elab.async false
set_option maxRecDepth 100000
set_option maxHeartbeats 1000000
namespace MI
open PySem PySem.Spec PyProof.Rows L2
def wpI (X : Cx) (tg it : Expr) : TI := fun σ H R => ∀ (pins : List (Addr × Obj)) (s : Shared), Inv X pins σ H s →
  wpAny (model X.prog X.w) X.A (eval it X.env) (fun v s1 => wpAny (model X.prog X.w) X.A (pyIter v) (PIE X pins σ tg R) X.xe s1) X.xe s
theorem pi_wp {X : Cx} {tg it : Expr} : PI X tg it (wpI X tg it) := ⟨fun pins s _ _ _ I h => h pins s I⟩
theorem _root_.L2.PI.wp {X : Cx} {tg it : Expr} {w : TI} (h : PI X tg it w) {σ H R} (q : w σ H R) : wpI X tg it σ H R := fun pins s I => h.run pins s σ H R I q
mutual
theorem D.beq_eq : ∀ a b : D, a.beq b = true → a = b
  | .non, b, h => by cases b <;> first | rfl | (unfold D.beq at h; cases h)
  | .bl x, b, h => by cases b <;> first | (unfold D.beq at h; rw [beq_iff_eq.mp h]) | (unfold D.beq at h; cases h)
  | .int x, b, h => by cases b <;> first | (unfold D.beq at h; rw [beq_iff_eq.mp h]) | (unfold D.beq at h; cases h)
  | .str x, b, h => by cases b <;> first | (unfold D.beq at h; rw [beq_iff_eq.mp h]) | (unfold D.beq at h; cases h)
  | .tup x, b, h => by cases b <;> first | (unfold D.beq at h; rw [D.beqs_eq _ _ h]) | (unfold D.beq at h; cases h)
  | .lst x, b, h => by cases b <;> first | (unfold D.beq at h; rw [D.beqs_eq _ _ h]) | (unfold D.beq at h; cases h)
  | .obj c x, b, h => by
    cases b <;> first
      | (unfold D.beq at h; rw [Bool.and_eq_true] at h; rw [beq_iff_eq.mp h.1, D.beqs_eq _ _ h.2])
      | (unfold D.beq at h; cases h)
  | .exc c x, b, h => by
    cases b <;> first
      | (unfold D.beq at h; rw [Bool.and_eq_true] at h; rw [beq_iff_eq.mp h.1, D.beqs_eq _ _ h.2])
      | (unfold D.beq at h; cases h)
  | .dic, b, h => by cases b <;> first | rfl | (unfold D.beq at h; cases h)
  | .ro x, b, h => by cases b <;> first | (unfold D.beq at h; rw [D.beqs_eq _ _ h]) | (unfold D.beq at h; cases h)
theorem D.beqs_eq : ∀ a b : List D, D.beqs a b = true → a = b
  | [], [], _ => rfl
  | [], _ :: _, h => by unfold D.beqs at h; cases h
  | _ :: _, [], h => by unfold D.beqs at h; cases h
  | x :: xs, y :: ys, h => by
    unfold D.beqs at h
    rw [Bool.and_eq_true] at h
    rw [D.beq_eq _ _ h.1, D.beqs_eq _ _ h.2]
end
mutual
theorem beq_refl : ∀ a : D, a.beq a = true
  | .non => rfl
  | .dic => rfl
  | .bl x => by unfold D.beq; simp
  | .int x => by unfold D.beq; simp
  | .str x => by unfold D.beq; simp
  | .tup x => by unfold D.beq; exact beqs_refl x
  | .lst x => by unfold D.beq; exact beqs_refl x
  | .ro x => by unfold D.beq; exact beqs_refl x
  | .obj c x => by unfold D.beq; simp [beqs_refl x]
  | .exc c x => by unfold D.beq; simp [beqs_refl x]
theorem beqs_refl : ∀ a : List D, D.beqs a a = true
  | [] => rfl
  | x :: xs => by unfold D.beqs; simp [beq_refl x, beqs_refl xs]
end
/-- an iterator gives the items, one by one, while the cells stand -/
structure Steps (K : PySem.W.Frag) (ct : CT) (as : List Addr) (s : Src) (J : It) (H1 : Hp) : Prop where
  go : ∀ (i : Nat) (H : Hp) (S : Sto), Keep as H1 H → SRel K ct as H S → s.still S = true → i < s.items.length → J.go i H
  stop : ∀ (H : Hp) (S : Sto), Keep as H1 H → SRel K ct as H S → s.still S = true → J.stop s.items.length H
  yld : ∀ (i : Nat) (H : Hp) (S : Sto) (x : V) (H' : Hp), Keep as H1 H → SRel K ct as H S → s.still S = true → i < s.items.length → J.yld i H x H' →
    ∃ d, s.items[i]? = some d ∧ Keep as H H' ∧ SRel K ct as H' S ∧ rel K ct as H' d x
/-- .. and while there are more cells -/
def StepsA (K : PySem.W.Frag) (ct : CT) (as : List Addr) (s : Src) (J : It) (H1 : Hp) : Prop := ∀ as', as <+: as' → (∀ a ∈ as', a ∈ as ∨ H1 a = none) → Steps K ct as' s J H1
section
variable {K : PySem.W.Frag} {ct : CT} {as : List Addr} {H1 : Hp}
/-- over a list that stands -/
theorem steps_list {a : Addr} {s : Src} (h : ∀ (H : Hp) (S : Sto), Keep as H1 H → SRel K ct as H S → s.still S = true → ∃ vs, SqL K H a vs ∧ rels K ct as H s.items vs) : Steps K ct as s (Itl K a) H1 where
  go := fun i H S k r st hi => by
    obtain ⟨vs, h1, h2⟩ := h H S k r st
    have l := h2.length
    exact ⟨vs, vs[i]'(by omega), h1, List.getElem?_eq_getElem _⟩
  stop := fun H S k r st => by
    obtain ⟨vs, h1, h2⟩ := h H S k r st
    exact ⟨vs, h1, by rw [h2.length]; exact Nat.le_refl _⟩
  yld := fun i H S x H' k r st hi ⟨e, y⟩ => by
    subst e
    obtain ⟨vs, h1, h2⟩ := h H' S k r st
    have hx := y vs h1
    obtain ⟨v, h3, h4⟩ := h2.get (List.getElem?_eq_getElem hi)
    rw [hx] at h3; cases h3
    exact ⟨_, List.getElem?_eq_getElem hi, .refl, r, h4⟩
theorem steps_tup {a : Addr} {s : Src} (h : ∀ (H : Hp) (S : Sto), Keep as H1 H → SRel K ct as H S → s.still S = true → ∃ vs, SqT K H a vs ∧ rels K ct as H s.items vs) : Steps K ct as s (Itt K a) H1 where
  go := fun i H S k r st hi => by
    obtain ⟨vs, h1, h2⟩ := h H S k r st
    have l := h2.length
    exact ⟨vs, vs[i]'(by omega), h1, List.getElem?_eq_getElem _⟩
  stop := fun H S k r st => by
    obtain ⟨vs, h1, h2⟩ := h H S k r st
    exact ⟨vs, h1, by rw [h2.length]; exact Nat.le_refl _⟩
  yld := fun i H S x H' k r st hi ⟨e, y⟩ => by
    subst e
    obtain ⟨vs, h1, h2⟩ := h H' S k r st
    have hx := y vs h1
    obtain ⟨v, h3, h4⟩ := h2.get (List.getElem?_eq_getElem hi)
    rw [hx] at h3; cases h3
    exact ⟨_, List.getElem?_eq_getElem hi, .refl, r, h4⟩
theorem steps_range {lo : Int} {n : Nat} : Steps K ct as ⟨rangeD lo n, none⟩ (Itr lo n) H1 where
  go := fun i H S k r st hi => by
    show i < n
    simpa [rangeD] using hi
  stop := fun H S k r st => by simp [rangeD, Itr]
  yld := fun i H S x H' k r st hi ⟨e, y⟩ => by
    subst e
    have hi' : i < n := by simpa [rangeD] using hi
    refine ⟨.int (lo + (i : Nat)), by simp [rangeD, hi'], .refl, r, ?_⟩
    rw [y]
    exact rl_int
/-- over new pairs of what stands at two places -/
theorem pair_new {H H' : Hp} {S : Sto} {T : Addr} {d e : D} {x y : V} (r : SRel K ct as H S) (hT : H T = none) (eH : H' = upd H T (.tup [x, y])) (rx : rel K ct as H d x) (ry : rel K ct as H e y) :
    Keep as H H' ∧ SRel K ct as H' S ∧ rel K ct as H' (.tup [d, e]) (.ref T) := by
  subst eH
  refine ⟨.new hT, r.fresh hT, ?_⟩
  unfold rel
  exact ⟨T, [x, y], rfl, .inl ⟨r.off hT, upd_same⟩, rels.cons (rx.keep (.new hT)) (rels.cons (ry.keep (.new hT)) rels.nil)⟩
theorem enum_get {xs : List D} {i : Nat} (h : i < xs.length) : (enumD xs)[i]? = some (.tup [.int (i : Nat), xs[i]]) := by
  unfold enumD
  simp [h]
theorem enum_len {xs : List D} : (enumD xs).length = xs.length := by unfold enumD; simp
theorem steps_enum {a : Addr} {xs : List D} (h : ∀ (H : Hp), Keep as H1 H → ∃ vs, SqL K H a vs ∧ rels K ct as H xs vs) : Steps K ct as ⟨enumD xs, none⟩ (Ite K a) H1 where
  go := fun i H S k r st hi => by
    obtain ⟨vs, h1, h2⟩ := h H k
    have l := h2.length
    have hi' : i < xs.length := by rw [← enum_len (xs := xs)]; exact hi
    exact ⟨vs, vs[i]'(by omega), h1, List.getElem?_eq_getElem _⟩
  stop := fun H S k r st => by
    obtain ⟨vs, h1, h2⟩ := h H k
    exact ⟨vs, h1, by rw [enum_len, h2.length]; exact Nat.le_refl _⟩
  yld := fun i H S x H' k r st hi ⟨T, y, e1, e2, e3, e4⟩ => by
    obtain ⟨vs, h1, h2⟩ := h H k
    have hi' : i < xs.length := by rw [← enum_len (xs := xs)]; exact hi
    obtain ⟨v, h3, h4⟩ := h2.get (List.getElem?_eq_getElem hi')
    have hy := e4 vs h1
    rw [hy] at h3; cases h3
    obtain ⟨q1, q2, q3⟩ := pair_new r e2 e3 (rl_int (i := (i : Nat))) h4
    subst e1
    exact ⟨_, enum_get hi', q1, q2, q3⟩
theorem zip_len : ∀ {xs ys : List D}, (zipD xs ys).length = min xs.length ys.length
  | [], _ => by unfold zipD; simp
  | _ :: _, [] => by unfold zipD; simp
  | x :: xs, y :: ys => by unfold zipD; simp [zip_len]
theorem zip_get : ∀ {xs ys : List D} {i : Nat} (h : i < xs.length) (h' : i < ys.length), (zipD xs ys)[i]? = some (.tup [xs[i], ys[i]])
  | x :: xs, y :: ys, 0, _, _ => by unfold zipD; rfl
  | x :: xs, y :: ys, i + 1, h, h' => by
    unfold zipD
    simpa using zip_get (xs := xs) (ys := ys) (i := i) (by simpa using h) (by simpa using h')
theorem steps_zip {a b : Addr} {xs ys : List D} (h : ∀ (H : Hp), Keep as H1 H → ∃ vs, SqL K H a vs ∧ rels K ct as H xs vs) (h' : ∀ (H : Hp), Keep as H1 H → ∃ vs, SqL K H b vs ∧ rels K ct as H ys vs) : Steps K ct as ⟨zipD xs ys, none⟩ (Itz K a b) H1 where
  go := fun i H S k r st hi => by
    obtain ⟨vs, h1, h2⟩ := h H k
    obtain ⟨ws, h3, h4⟩ := h' H k
    have l := h2.length
    have l' := h4.length
    have hi' : i < min xs.length ys.length := by rw [← zip_len (xs := xs)]; exact hi
    exact ⟨vs, ws, vs[i]'(by omega), ws[i]'(by omega), h1, h3, List.getElem?_eq_getElem _, List.getElem?_eq_getElem _⟩
  stop := fun H S k r st => by
    obtain ⟨vs, h1, h2⟩ := h H k
    obtain ⟨ws, h3, h4⟩ := h' H k
    have l := h2.length
    have l' := h4.length
    exact ⟨vs, ws, h1, h3, by rw [zip_len]; omega⟩
  yld := fun i H S x H' k r st hi ⟨T, u, w, e1, e2, e3, e4, e5⟩ => by
    obtain ⟨vs, h1, h2⟩ := h H k
    obtain ⟨ws, h3, h4⟩ := h' H k
    have hi' : i < min xs.length ys.length := by rw [← zip_len (xs := xs)]; exact hi
    obtain ⟨v, h5, h6⟩ := h2.get (List.getElem?_eq_getElem (show i < xs.length by omega))
    obtain ⟨v', h7, h8⟩ := h4.get (List.getElem?_eq_getElem (show i < ys.length by omega))
    rw [e4 vs h1] at h5; cases h5
    rw [e5 ws h3] at h7; cases h7
    obtain ⟨q1, q2, q3⟩ := pair_new r e2 e3 h6 h8
    subst e1
    exact ⟨_, zip_get (by omega) (by omega), q1, q2, q3⟩
theorem steps_zipT {a b : Addr} {xs ys : List D} (h : ∀ (H : Hp), Keep as H1 H → ∃ vs, SqT K H a vs ∧ rels K ct as H xs vs) (h' : ∀ (H : Hp), Keep as H1 H → ∃ vs, SqT K H b vs ∧ rels K ct as H ys vs) : Steps K ct as ⟨zipD xs ys, none⟩ (RZ.ItzT K a b) H1 where
  go := fun i H S k r st hi => by
    obtain ⟨vs, h1, h2⟩ := h H k
    obtain ⟨ws, h3, h4⟩ := h' H k
    have l := h2.length
    have l' := h4.length
    have hi' : i < min xs.length ys.length := by rw [← zip_len (xs := xs)]; exact hi
    exact ⟨vs, ws, vs[i]'(by omega), ws[i]'(by omega), h1, h3, List.getElem?_eq_getElem _, List.getElem?_eq_getElem _⟩
  stop := fun H S k r st => by
    obtain ⟨vs, h1, h2⟩ := h H k
    obtain ⟨ws, h3, h4⟩ := h' H k
    have l := h2.length
    have l' := h4.length
    exact ⟨vs, ws, h1, h3, by rw [zip_len]; omega⟩
  yld := fun i H S x H' k r st hi ⟨T, u, w, e1, e2, e3, e4, e5⟩ => by
    obtain ⟨vs, h1, h2⟩ := h H k
    obtain ⟨ws, h3, h4⟩ := h' H k
    have hi' : i < min xs.length ys.length := by rw [← zip_len (xs := xs)]; exact hi
    obtain ⟨v, h5, h6⟩ := h2.get (List.getElem?_eq_getElem (show i < xs.length by omega))
    obtain ⟨v', h7, h8⟩ := h4.get (List.getElem?_eq_getElem (show i < ys.length by omega))
    rw [e4 vs h1] at h5; cases h5
    rw [e5 ws h3] at h7; cases h7
    obtain ⟨q1, q2, q3⟩ := pair_new r e2 e3 h6 h8
    subst e1
    exact ⟨_, zip_get (by omega) (by omega), q1, q2, q3⟩
end
/-- what a loop walks -/
def SoundI (I : Info) (n : Nat) (N : List Str) (sc : Scope) (tg it : Expr) (IT : MI.I) : Prop := ∀ (X : Cx) (W : WX), Cn I n N sc X W → ∀ ρ S as σ H (R1 : It → Hp → Prop), EnvOk X.K I.ct as H ρ σ → SRel X.K I.ct as H S →
  Good X.K I.ct W as (evI (I.g n) IT ρ S) H σ (fun s S' => ∀ J H', Keep as H H' → SRel X.K I.ct as H' S' → s.still S' = true → StepsA X.K I.ct as s J H' → R1 J H') → wpI X tg it σ H R1
section
variable {I : Info} {n : Nat} {N : List Str} {sc : Scope} {X : Cx} {W : WX} {ρ : Rho} {S : Sto} {as : List Addr} {σ : L2.St} {H : Hp} {Q : VK} {a b c tg : Expr} {A B C : E} {pos p p2 pos2 : Pos}
theorem iter_list {pins : List (Addr × Obj)} {s1 : Shared} {H1 : Hp} {aa : Addr} {R1 : It → Hp → Prop} {xs : List V} (I1 : Inv X pins σ H1 s1) (hq : SqL X.K H1 aa xs) (q : R1 (Itl X.K aa) H1) : wpAny (model X.prog X.w) X.A (pyIter (.ref aa)) (PIE X pins σ tg R1) X.xe s1 := by
  obtain ⟨its, rv, p, hz⟩ := I1.list hq
  refine wpAny_pyIter_list p.isList ?_
  refine ⟨s1.heap.objs.size, [s1.heap.objs.size], _, _, H1, rfl, I1.kept (t' := s1.toks) fun b o e => Heap.get?_push_of_some _ e, turn_list aa _, ⟨_, Heap.get?_push_size _ rfl, rfl, rfl⟩, fun b hb => ?_, q⟩
  have e : b = s1.heap.objs.size := by simpa using hb
  subst e
  exact I1.fpOk (Nat.le_refl _) (I1.hok.fresh (Nat.le_refl _))
theorem iter_tup {pins : List (Addr × Obj)} {s1 : Shared} {H1 : Hp} {aa : Addr} {R1 : It → Hp → Prop} {xs : List V} (I1 : Inv X pins σ H1 s1) (hq : SqT X.K H1 aa xs) (q : R1 (Itt X.K aa) H1) : wpAny (model X.prog X.w) X.A (pyIter (.ref aa)) (PIE X pins σ tg R1) X.xe s1 := by
  obtain ⟨its, rv, p, hz⟩ := I1.tuple hq
  refine wpAny_pyIter_tuple (show s1.heap.IsTuple aa its.toArray from p) ?_
  refine ⟨s1.heap.objs.size, [s1.heap.objs.size], _, _, H1, rfl, I1.kept (t' := s1.toks) fun b o e => Heap.get?_push_of_some _ e, turn_tuple aa _, ⟨_, Heap.get?_push_size _ rfl, rfl, rfl⟩, fun b hb => ?_, q⟩
  have e : b = s1.heap.objs.size := by simpa using hb
  subst e
  exact I1.fpOk (Nat.le_refl _) (I1.hok.fresh (Nat.le_refl _))
theorem keep_sql {K : PySem.W.Frag} {ct : CT} {H H1 : Hp} {xs : List D} {v : V} (k : Keep as H H1) (r : rel K ct as H (.lst xs) v) : ∃ a vs, v = .ref a ∧ SqL K H1 a vs ∧ rels K ct as H1 xs vs := by
  have r := r.keep k
  unfold rel at r
  obtain ⟨a, vs, e, _, h1, h2⟩ := r
  exact ⟨a, vs, e, SqL.of h1, h2⟩
theorem sI_e (sa : SoundE I n N sc a A) : SoundI I n N sc tg a (.e A) := by
  intro X W hc ρ S as σ H R1 he hs g pins s J
  unfold evI at g
  have key : wpE X a σ H fun v H1 => (∃ aa xs, v = .ref aa ∧ SqL X.K H1 aa xs ∧ R1 (Itl X.K aa) H1) ∨ ∃ aa xs, v = .ref aa ∧ SqT X.K H1 aa xs ∧ R1 (Itt X.K aa) H1 := by
    refine sa.then_ hc he hs g fun rv S1 v H1 r g1 => ?_
    obtain ⟨src, e, q⟩ := Good.of g1
    have q' := fun J H' k => q J H' (r.1.tr k)
    have kk := r.1
    unfold srcOf at e
    split at e
    · cases e
      have r1 : rel X.K I.ct as H1 (.lst _) v := r.2.2
      have r1' := r1
      unfold rel at r1
      obtain ⟨aa, vs, rfl, h0, h1, h2⟩ := r1
      refine .inl ⟨aa, vs, rfl, SqL.of h1, q _ _ kk r.2.1 rfl fun as' hp hf => steps_list fun H2 S2 k2 s2 _ => ?_⟩
      obtain ⟨b, ws, e1, e2, e3⟩ := keep_sql k2 (r1'.mono .refl hf)
      cases e1
      exact ⟨ws, e2, e3⟩
    · cases e
      have r1 : rel X.K I.ct as H1 (.tup _) v := r.2.2
      unfold rel at r1
      obtain ⟨aa, vs, rfl, h1, h2⟩ := r1
      exact .inr ⟨aa, vs, rfl, h1.sq, q _ _ kk r.2.1 rfl fun as' hp hf => steps_tup fun H2 S2 k2 s2 _ => ⟨vs, ((h1.mono .refl hf).mono k2 fun _ h => .inl h).sq, (h2.mono .refl hf).keep k2⟩⟩
    · cases e
      have r1 : rel X.K I.ct as H1 (.ro _) v := r.2.2
      unfold rel at r1
      obtain ⟨aa, vs, rfl, h1, h2⟩ := r1
      exact .inl ⟨aa, vs, rfl, h1.sq, q _ _ kk r.2.1 rfl fun as' hp hf => steps_list fun H2 S2 k2 s2 _ => ⟨vs, ((h1.mono .refl hf).mono k2 fun _ h => .inl h).sq, (h2.mono .refl hf).keep k2⟩⟩
    · rename_i m
      split at e
      · rename_i xs hx
        cases e
        obtain ⟨s1, aa, ha, rfl⟩ := r.2
        obtain ⟨vs, h1, h2⟩ := s1.cell m _ aa hx ha
        refine .inl ⟨aa, vs, rfl, SqL.of h1, q _ _ kk s1 ?_ fun as' hp hf => steps_list fun H2 S2 k2 s2 st => ?_⟩
        · show stillB m xs S1 = true
          unfold stillB
          rw [hx]
          exact beqs_refl xs
        · have st' : stillB m xs S2 = true := st
          unfold stillB at st'
          split at st'
          · rename_i ys hy
            have ey := D.beqs_eq _ _ st'
            subst ey
            obtain ⟨t, rfl⟩ := hp
            obtain ⟨ws, h3, h4⟩ := s2.cell m _ aa hy (by rw [List.getElem?_append_left (List.getElem?_eq_some_iff.mp ha).1]; exact ha)
            exact ⟨ws, SqL.of h3, h4⟩
          · cases st'
      · cases e
    · rename_i xs
      cases e
      obtain ⟨_, aa, rfl, hn, s1⟩ := r
      have r1 := frozen s1 (show Cell.freeze (.lst xs) = some (.lst xs) from rfl)
      have r1' := r1
      unfold rel at r1
      obtain ⟨a2, vs, e2, h0, h1, h2⟩ := r1
      cases e2
      refine .inl ⟨aa, vs, rfl, SqL.of h1, q _ _ kk s1.pop rfl fun as' hp hf => steps_list fun H2 S2 k2 s2 _ => ?_⟩
      obtain ⟨b, ws, e1, e2, e3⟩ := keep_sql k2 (r1'.mono .refl hf)
      cases e1
      exact ⟨ws, e2, e3⟩
    · cases e
  refine thn (key pins s J) fun u s1 ⟨v, H1, I1, r1, q1⟩ => ?_
  rcases q1 with ⟨aa, xs, rfl, h1, h2⟩ | ⟨aa, xs, rfl, h1, h2⟩
  · obtain rfl : u = Value.ref aa := r1
    exact iter_list I1 h1 h2
  · obtain rfl : u = Value.ref aa := r1
    exact iter_tup I1 h1 h2
end
end MI
set_option linter.all false
set_option Elab.async false
set_option maxRecDepth 100000
set_option maxHeartbeats 1000000
namespace PySem
open Sem (wp)
open AutoSeq1 (wpAny_loadPart')
theorem meets_enumerate_newT (l : Addr) (items : Array Value) (n : Nat) (dct : Option Addr) (sl : Array (Option Value)) :
    Meets (Builtin.«enumerate.__new__» ⟨[.type "enumerate", .ref l], []⟩) (fun _ R s => s.heap.get? l = some { cls := .type "tuple", dict := dct, data := .seq items n, slots := sl } ∧
      R (.ok (.ret (.ref (s.heap.push { cls := .type "tuple_iterator", data := .fields #[.ref l, .int 0 0] }).objs.size)))
        { s with heap := (s.heap.push { cls := .type "tuple_iterator", data := .fields #[.ref l, .int 0 0] }).push { cls := .type "enumerate", data := .fields #[.none, .bool false, .ref s.heap.objs.size, rawInt 0, .none, .none] } }) :=
  .of_wp fun prog w A R s h => by
    obtain ⟨hp, g, d, tk, os⟩ := s; obtain ⟨hl, h⟩ := h
    have hsub := sub_enumerate
    have hL : Heap.IsTuple (Shared.heap ⟨hp, g, d, tk, os⟩) l items := ⟨_, hl, rfl, n, rfl⟩
    wp_walk using wpAny_loadPart' hl
    refine wpAny_stack_any fun st => wpAny_pure ?_
    split
    · rename_i c _ _ _ _ _
      cases (c == Value.type "enumerate")
      · wp_walk using wpAny_loadPart' hl, wpAny_pyIter_tuple hL
        exact ⟨_, rfl, h⟩
      · wp_walk using wpAny_loadPart' hl, wpAny_pyIter_tuple hL
        exact ⟨_, rfl, h⟩
    · wp_walk using wpAny_loadPart' hl, wpAny_pyIter_tuple hL
      exact ⟨_, rfl, h⟩
section
variable {prog : Program} {w : World} {A : Around} {E : Value → Shared → Prop} {s : Shared}
theorem call_enumerate_tuple {l : Addr} {items : Array Value} {Q : Value → Shared → Prop} (hL : s.heap.IsTuple l items)
    (h : ∀ h', IsEnum h' (s.heap.objs.size + 1) s.heap.objs.size 0 .none → h'.IsTupleIter s.heap.objs.size l 0 → h'.objs.size = s.heap.objs.size + 2 →
      (∀ b o, s.heap.get? b = some o → h'.get? b = some o) → Q (.ref (s.heap.objs.size + 1)) { s with heap := h' }) :
    wpAny (model prog w) A (call (.type "enumerate") [.ref l]) Q E s := by
  obtain ⟨⟨c, dct, dt, sl⟩, hl, hc, n, hd⟩ := hL
  replace hc : c = .type "tuple" := hc
  replace hd : dt = .seq items n := hd
  subst hc hd
  refine callType_new F.called_enumerate (by decide) (F.typeCall_enumerate_1 _) (F.newCall_enumerate_1 _) (fun obj => F.args_object_init_2 obj _) F.entry_enumerate_new
    (meets_enumerate_newT l items n dct sl) ⟨hl, ?_⟩
  have hz : (s.heap.push { cls := .type "tuple_iterator", data := .fields #[.ref l, .int 0 0] }).objs.size = s.heap.objs.size + 1 := Heap.size_push ..
  show _ ∧ _
  rw [hz]
  have he : IsEnum ((s.heap.push { cls := .type "tuple_iterator", data := .fields #[.ref l, .int 0 0] }).push
      { cls := .type "enumerate", data := .fields #[.none, .bool false, .ref s.heap.objs.size, rawInt 0, .none, .none] }) (s.heap.objs.size + 1) s.heap.objs.size 0 .none := by
    have := Heap.get?_push_size (s.heap.push { cls := .type "tuple_iterator", data := .fields #[.ref l, .int 0 0] })
      (o := { cls := .type "enumerate", data := .fields #[.none, .bool false, .ref s.heap.objs.size, rawInt 0, .none, .none] }) rfl
    rw [hz] at this; exact this
  refine ⟨⟨_, he, rfl⟩, h _ he ⟨_, Heap.get?_push_of_some _ (Heap.get?_push_size _ rfl), rfl, rfl⟩ (by rw [Heap.size_push, hz]) fun b o x => Heap.get?_push_of_some _ (Heap.get?_push_of_some _ x)⟩
end
end PySem
namespace L2
open PySem PySem.Spec PyProof.Rows
def IteT (K : PySem.W.Frag) (a : Addr) : It :=
  ⟨fun i H => ∃ (xs : List V) (x : V), SqT K H a xs ∧ xs[i]? = some x, fun i H v H' => ∃ T x, v = .ref T ∧ H T = none ∧ H' = upd H T (.tup [.int (i : Nat), x]) ∧ ∀ xs, SqT K H a xs → xs[i]? = some x, fun i H => ∃ xs : List V, SqT K H a xs ∧ xs.length ≤ i⟩
theorem turn_enumT {P : Program} {w : World} {K : PySem.W.Frag} {elts : List Expr} {kk : Nat} {tpos : Pos} (a e it : Addr) (hait : a ≠ it) :
    Turn P w K (.Tuple elts kk tpos) (IteT K a) [e, it] e (fun i h => (∃ old, IsEnum h e it ((i : Nat) : Int) old) ∧ h.IsTupleIter it a i ∧ e ≠ it) where
  mem := by simp
  obj := fun i h st b hb => by
    obtain ⟨⟨old, he⟩, ⟨o, ho, hc, hd⟩, _⟩ := st
    have e' : b = e ∨ b = it := by simpa using hb
    rcases e' with z | z
    · rw [z]; exact ⟨_, he, fun v q => nomatch q⟩
    · rw [z]; exact ⟨o, ho, fun v q => by rw [hd] at q; cases q⟩
  keep := fun i h h' st k => let ⟨⟨old, he⟩, hi, hne⟩ := st; ⟨⟨old, k e (by simp) _ he⟩, hi.at fun o q => k it (by simp) o q, hne⟩
  item := by
    intro X hP hw hK hc i pins s σ H E I hf st hg
    subst hP hw hK
    obtain ⟨⟨old, he⟩, hit, hne⟩ := st
    obtain ⟨xs, x, hq, hx⟩ := hg
    obtain ⟨its, rv, p, hz⟩ := I.tuple hq
    obtain ⟨u, hu, ru⟩ := rv.get hx
    have hel : e < s.heap.objs.size := Heap.lt_size he
    have hil : it < s.heap.objs.size := by obtain ⟨_, q, _⟩ := hit; exact Heap.lt_size q
    have pT : s.heap.IsTuple a its.toArray := p
    have hln : i < its.toArray.size := by
      have := (List.getElem?_eq_some_iff.mp hu).1
      simpa using this
    have D := Draws.tuple (prog := X.prog) (w := X.w) (A := X.A.in1) (by exact I.ok.hd hc) it a hait its.toArray
    have hea : e ≠ a := fun z => by
      obtain ⟨o, ho, hc, _⟩ := pT
      rw [← z, he] at ho
      cases ho
      exact absurd (Value.type.inj hc) (by decide)
    refine wpAny_pyNext_enum_itemD D he ⟨hit, pT⟩ hln hne (by simp [hne, hea]) fun y h' tk hy ho hst' hT hsz hk => ?_
    obtain ⟨hit', pT'⟩ := hst'
    have ey : y = u := by
      have hu' : its.toArray[i]? = some u := by simpa using hu
      rw [hu'] at hy; cases hy; rfl
    subst ey
    refine ⟨_, rfl, wpAny_letOwnedTupleGo_enum (s := { s with heap := h', toks := tk + 1 }) ho fun h'' he' sb => ?_⟩
    have hT2 : h''.get? s.heap.objs.size = some { cls := .type "tuple", data := .seq #[.int i tk, y] } := (sb.2 _ (Nat.ne_of_gt hel)).trans hT
    have new : ObjOk X.prog X.w (upd H s.heap.objs.size (.tup [.int (i : Nat), x])) h'' s.heap.objs.size (.tup [.int (i : Nat), x]) :=
      ⟨by show 2 ≤ sizeLine; decide, [.int i tk, y], .cons ⟨_, rfl⟩ (.cons ru .nil), ⟨_, hT2, rfl, _, rfl⟩⟩
    have I1 : Inv X pins σ (upd H s.heap.objs.size (.tup [.int (i : Nat), x])) { s with heap := h'', toks := tk + 1 } :=
      I.turnedNew (ch := [e, it]) (fun b ob hb q => (sb.2 b (fun z => hb (by simp [z]))).trans (hk b ob (fun z => hb (by simp [z])) (fun z => hb (by simp [z])) q)) hf (Nat.le_refl _) new
    refine ⟨.ref s.heap.objs.size, _, I1, rfl, ⟨_, x, rfl, I.hok.fresh (Nat.le_refl _), rfl, fun ys hy => by rw [I.tuple_inj hy hq]; exact hx⟩, ⟨⟨y, ?_⟩, hit'.at fun o q => (sb.2 it (Ne.symm hne)).trans q, hne⟩, fun b hb => ?_⟩
    · have e1 : ((i + 1 : Nat) : Int) = (i : Int) + 1 := by omega
      rw [e1]; exact he'
    · have hb' : b < s.heap.objs.size := by
        have e' : b = e ∨ b = it := by simpa using hb
        rcases e' with z | z
        · rw [z]; exact hel
        · rw [z]; exact hil
      rw [upd_ne (Nat.ne_of_lt hb')]
      exact (hf b hb).1
  done := by
    intro X hP hw hK hc i pins s σ H E I hf st hg
    subst hP hw hK
    obtain ⟨⟨old, he⟩, hit, hne⟩ := st
    obtain ⟨xs, hq, hx⟩ := hg
    obtain ⟨its, rv, p, hz⟩ := I.tuple hq
    obtain ⟨f0, f1, f2, f3, f4, f5⟩ := hf it (by simp)
    have hl := rv.length
    have pT : s.heap.IsTuple a its.toArray := p
    have hT : s.TypeIs (.ref e) "enumerate" := ⟨_, he, rfl⟩
    unfold pyNext
    refine wpAny_bind (wpAny_attempt (wpAny_callSpecial?_slot (name := Str.ofString "__next__") hT F.slot_enumerate_next
      (wpAny_call_entry F.slot_enumerate_next hT F.entry_enumerate_next ?_ (F.args_enumerate_next_1 _))))
    show wpAny _ _ (field (.ref e) 2 >>= _) _ _ _
    refine wpAny_bind (wpAny_field he rfl (x := .ref it) rfl ?_)
    refine wpAny_bind (wpAny_nextOf_tuple_end (by exact I.ok.hd hc) hit pT (by simp; omega) fun h' x eb hx' => ?_)
    obtain ⟨o, ho, hcl⟩ := hx'
    refine wpAny_bind (wpAny_isInstance (T := "StopIteration") (b := true) ⟨o, ho, hcl⟩ isSubtype_stop ?_)
    exact wpAny_pure ⟨rfl, I.turned (t' := s.toks) (fun b o hb q => eb b o hb q) f0 f1 f3 f4 f5⟩
  self := fun A i s Q E st h => let ⟨⟨_, he⟩, _⟩ := st; wpAny_pyIter_enum he h
def iEnumA (K : PySem.W.Frag) (ta : TA) : TI := fun σ H R => ta σ H fun vs H1 => ∃ a, vs = [.ref a] ∧ ((∃ xs, SqL K H1 a xs ∧ R (Ite K a) H1) ∨ ∃ xs, SqT K H1 a xs ∧ R (IteT K a) H1)
theorem pi_enumA {X : Cx} {e : Expr} {ta : TA} {p pos tpos : Pos} {elts : List Expr} {kk : Nat} (hg : Gl X "enumerate") (hm : X.mg "enumerate" = none) (ha : PA X [e] ta) (hs : starEach [e] X.env = [(false, eval e X.env)]) :
    PI X (.Tuple elts kk tpos) (.Call (.Name "enumerate" p) [e] [] pos) (iEnumA X.K ta) := by
  refine ⟨fun pins s σ H R I h => ?_⟩
  refine Call_ (ld_blt I hg hm boot_enumerate (PyProof.Rows.callWith_type1 (thn (ha.run pos pins s σ H _ I h) fun us s1 ⟨vs, H1, I1, r1, q1⟩ => ?_) hs rfl))
  obtain ⟨a, ex, q1⟩ := q1
  subst ex
  cases r1 with
  | cons r rr =>
    cases rr
    cases r
    rcases q1 with ⟨xs, hq, q⟩ | ⟨xs, hq, q⟩
    · obtain ⟨its, rv, p', hz⟩ := I1.list hq
      refine call_enumerate_list p'.isList fun h' he hit hsz hk => wpAny_pyIter_enum he ?_
      have I2 : Inv X pins σ H1 { s1 with heap := h' } := I1.kept (t' := s1.toks) hk
      refine ⟨s1.heap.objs.size + 1, [s1.heap.objs.size + 1, s1.heap.objs.size], _, _, H1, rfl, I2, turn_enum a (s1.heap.objs.size + 1) s1.heap.objs.size, ⟨⟨.none, he⟩, hit, Nat.succ_ne_self _⟩, fun b hb => ?_, q⟩
      have e' : b = s1.heap.objs.size + 1 ∨ b = s1.heap.objs.size := by simpa using hb
      have hle : s1.heap.objs.size ≤ b := by
        rcases e' with z | z
        · rw [z]; exact Nat.le_add_right _ _
        · rw [z]; exact Nat.le_refl _
      exact I1.fpOk hle (I1.hok.fresh hle)
    · obtain ⟨its, rv, p', hz⟩ := I1.tuple hq
      have hlt : a < s1.heap.objs.size := by obtain ⟨o, ho, _⟩ := p'; exact Heap.lt_size ho
      refine call_enumerate_tuple (show s1.heap.IsTuple a its.toArray from p') fun h' he hit hsz hk => wpAny_pyIter_enum he ?_
      have I2 : Inv X pins σ H1 { s1 with heap := h' } := I1.kept (t' := s1.toks) hk
      refine ⟨s1.heap.objs.size + 1, [s1.heap.objs.size + 1, s1.heap.objs.size], _, _, H1, rfl, I2, turn_enumT a (s1.heap.objs.size + 1) s1.heap.objs.size (Nat.ne_of_lt hlt), ⟨⟨.none, he⟩, hit, Nat.succ_ne_self _⟩, fun b hb => ?_, q⟩
      have e' : b = s1.heap.objs.size + 1 ∨ b = s1.heap.objs.size := by simpa using hb
      have hle : s1.heap.objs.size ≤ b := by
        rcases e' with z | z
        · rw [z]; exact Nat.le_add_right _ _
        · rw [z]; exact Nat.le_refl _
      exact I1.fpOk hle (I1.hok.fresh hle)
end L2
set_option linter.all false
set_option Elab.async false
set_option maxRecDepth 100000
set_option maxHeartbeats 1000000
namespace MI
open PySem PySem.Spec PyProof.Rows L2
section
variable {I : Info} {n : Nat} {N : List Str} {sc : Scope} {X : Cx} {W : WX} {ρ : Rho} {S : Sto} {as : List Addr} {σ : L2.St} {H : Hp} {Q : VK} {a b c tg : Expr} {A B C : E} {pos p p2 pos2 : Pos}
/-! ### range, enumerate, zip -/
theorem rangeOk_of {i j : Int} (h : rangeOk i j = true) : -(2 ^ 62) ≤ i ∧ i < 2 ^ 62 ∧ -(2 ^ 62) ≤ j ∧ j < 2 ^ 62 := by
  have := of_decide_eq_true h
  exact ⟨this.1, this.2.1, this.2.2.1, this.2.2.2.1⟩
theorem sI_range1 (sa : SoundE I n N sc a A) (hst : isStar a = false) (hg : sc.names.lookup ("range" : Str) = some .globalImplicit) : SoundI I n N sc tg (.Call (.Name "range" p) [a] [] pos) (.range1 A) := by
  intro X W hc ρ S as σ H R1 he hs g
  refine (pi_range1 (X := X) (hc.gl hg) (hc.wf.bi _ (by decide +kernel)) (pa_cons (pe_wp (X := X) (e := a)) pa_nil (star_plain hst)) (star_plain hst)).wp ?_
  unfold evI at g
  show wpE X a σ H _
  refine sa.then_ hc he hs g fun rv S1 v H1 r g1 => ?_
  split at g1
  · rename_i i
    split at g1
    · rename_i hr
      obtain ⟨k, s⟩ := r.store
      obtain ⟨_, _, h3, h4⟩ := rangeOk_of hr
      refine ⟨i, by rw [vr_int r.2.2], h3, h4, g1 _ _ k s rfl fun _ _ _ => steps_range⟩
    · exact g1.elim
  · exact g1.elim
theorem sI_range2 (sa : SoundE I n N sc a A) (sb : SoundE I n N sc b B) (hst : isStar a = false) (hst2 : isStar b = false) (hg : sc.names.lookup ("range" : Str) = some .globalImplicit) : SoundI I n N sc tg (.Call (.Name "range" p) [a, b] [] pos) (.range2 A B) := by
  intro X W hc ρ S as σ H R1 he hs g
  refine (pi_range2 (X := X) (hc.gl hg) (hc.wf.bi _ (by decide +kernel)) (pa_cons (pe_wp (X := X) (e := a)) (pa_cons (pe_wp (X := X) (e := b)) pa_nil (star_plain hst2)) (star_plain hst))
    (by rw [star_plain hst, star_plain hst2]; rfl) (by rw [star_plain hst2]; rfl)).wp ?_
  unfold evI at g
  show wpE X a σ H fun x H1 => wpE X b σ H1 fun y H2 => _
  refine sa.then_ hc he hs g fun rv S1 v H1 r g1 => ?_
  obtain ⟨k, s⟩ := r.store
  refine sb.then_ hc (he.keep k) s g1 fun rv2 S2 v2 H2 r2 g2 => ?_
  split at g2
  · rename_i i j
    split at g2
    · rename_i hr
      obtain ⟨k2, s2⟩ := r2.store
      refine ⟨i, j, by rw [vr_int r.2.2, vr_int r2.2.2], rangeOk_of hr, g2 _ _ (k.tr k2) s2 rfl fun _ _ _ => steps_range⟩
    · exact g2.elim
  · exact g2.elim
/-- as data: what is handed on and is no cell -/
theorem Res.data {K : PySem.W.Frag} {ct : CT} {rv : RV} {d : D} {v : V} {S' : Sto} {H' : Hp} (r : Res K ct as H rv S' v H') (e : rv.data = some d) : Keep as H H' ∧ SRel K ct as H' S' ∧ rel K ct as H' d v := by
  cases rv with
  | d x => cases e; exact ⟨r.1, r.2.1, r.2.2⟩
  | r n => cases e
  | new c =>
    obtain ⟨k, a, rfl, _, q⟩ := r
    exact ⟨k, q.pop, frozen q e⟩
theorem steps_enumT {K : PySem.W.Frag} {ct : CT} {H1 : Hp} {a : Addr} {xs : List D} (h : ∀ (H : Hp), Keep as H1 H → ∃ vs, SqT K H a vs ∧ rels K ct as H xs vs) : Steps K ct as ⟨enumD xs, none⟩ (IteT K a) H1 where
  go := fun i H S k r st hi => by
    obtain ⟨vs, h1, h2⟩ := h H k
    have l := h2.length
    have hi' : i < xs.length := by rw [← enum_len (xs := xs)]; exact hi
    exact ⟨vs, vs[i]'(by omega), h1, List.getElem?_eq_getElem _⟩
  stop := fun H S k r st => by
    obtain ⟨vs, h1, h2⟩ := h H k
    exact ⟨vs, h1, by rw [enum_len, h2.length]; exact Nat.le_refl _⟩
  yld := fun i H S x H' k r st hi ⟨T, y, e1, e2, e3, e4⟩ => by
    obtain ⟨vs, h1, h2⟩ := h H k
    have hi' : i < xs.length := by rw [← enum_len (xs := xs)]; exact hi
    obtain ⟨v, h3, h4⟩ := h2.get (List.getElem?_eq_getElem hi')
    have hy := e4 vs h1
    rw [hy] at h3; cases h3
    obtain ⟨q1, q2, q3⟩ := pair_new r e2 e3 (rl_int (i := (i : Nat))) h4
    subst e1
    exact ⟨_, enum_get hi', q1, q2, q3⟩
theorem sI_enum {es : List Expr} {kk : Nat} {tpos : Pos} (sa : SoundE I n N sc a A) (hst : isStar a = false) (hg : sc.names.lookup ("enumerate" : Str) = some .globalImplicit) : SoundI I n N sc (.Tuple es kk tpos) (.Call (.Name "enumerate" p) [a] [] pos) (.enum A) := by
  intro X W hc ρ S as σ H R1 he hs g
  refine (pi_enumA (X := X) (hc.gl hg) (hc.wf.bi _ (by decide +kernel)) (pa_cons (pe_wp (X := X) (e := a)) pa_nil (star_plain hst)) (star_plain hst)).wp ?_
  unfold evI at g
  show wpE X a σ H fun x H1 => ∃ aa, [x] = [V.ref aa] ∧ _
  refine sa.then_ hc he hs g fun rv S1 v H1 r g1 => ?_
  cases hd : rv.data with
  | none => rw [hd] at g1; exact g1.elim
  | some d =>
    rw [hd] at g1
    obtain ⟨k, s, r1⟩ := r.data hd
    cases d <;> first | exact g1.elim | skip
    · rename_i xs
      have r1' := r1
      unfold rel at r1
      obtain ⟨aa, vs, rfl, h1, h2⟩ := r1
      exact ⟨aa, rfl, .inr ⟨vs, h1.sq, g1 _ _ k s rfl fun as' hp hf => steps_enumT fun H2 k2 => ⟨vs, ((h1.mono .refl hf).mono k2 fun _ h => .inl h).sq, (h2.mono .refl hf).keep k2⟩⟩⟩
    · rename_i xs
      have r1' := r1
      unfold rel at r1
      obtain ⟨aa, vs, rfl, h0, h1, h2⟩ := r1
      refine ⟨aa, rfl, .inl ⟨vs, SqL.of h1, g1 _ _ k s rfl fun as' hp hf => steps_enum fun H2 k2 => ?_⟩⟩
      obtain ⟨b, ws, e1, e2, e3⟩ := keep_sql k2 (r1'.mono .refl hf)
      cases e1
      exact ⟨ws, e2, e3⟩
theorem sI_zip {es : List Expr} {kk : Nat} {tpos : Pos} (sa : SoundE I n N sc a A) (sb : SoundE I n N sc b B) (hst : isStar a = false) (hst2 : isStar b = false) (hg : sc.names.lookup ("zip" : Str) = some .globalImplicit) : SoundI I n N sc (.Tuple es kk tpos) (.Call (.Name "zip" p) [a, b] [] pos) (.zip A B) := by
  intro X W hc ρ S as σ H R1 he hs g
  refine (RZ.pi_zipA (X := X) (hc.gl hg) (hc.wf.bi _ (by decide +kernel)) (pa_cons (pe_wp (X := X) (e := a)) (pa_cons (pe_wp (X := X) (e := b)) pa_nil (star_plain hst2)) (star_plain hst))
    (by rw [star_plain hst]) (by rw [star_plain hst2]; rfl)).wp ?_
  unfold evI at g
  show wpE X a σ H fun x H1 => wpE X b σ H1 fun y H2 => _
  refine sa.then_ hc he hs g fun rv S1 v H1 r g1 => ?_
  obtain ⟨d, hd, g1⟩ := Good.of g1.bind
  obtain ⟨k, s, r1⟩ := r.data hd
  refine sb.then_ hc (he.keep k) s g1 fun rv2 S2 v2 H2 r2 g2 => ?_
  obtain ⟨d2, hd2, g2⟩ := Good.of g2.bind
  obtain ⟨k2, s2, r3⟩ := r2.data hd2
  have r1' := r1.keep k2
  cases d <;> first | exact g2.elim | skip
  · cases d2 <;> first | exact g2.elim | skip
    rename_i xs ys
    have q1 := r1'
    have q3 := r3
    unfold rel at q1 q3
    obtain ⟨aa, vs, rfl, h1, h2⟩ := q1
    obtain ⟨bb, ws, rfl, h3, h4⟩ := q3
    exact ⟨aa, bb, vs, ws, rfl, .inr ⟨h1.sq, h3.sq, g2 _ _ (k.tr k2) s2 rfl fun as' hp hf => steps_zipT (fun H2 k2 => ⟨vs, ((h1.mono .refl (fun a z => (hf a z))).mono k2 fun _ h => .inl h).sq, (h2.mono .refl hf).keep k2⟩) fun H2 k2 => ⟨ws, ((h3.mono .refl hf).mono k2 fun _ h => .inl h).sq, (h4.mono .refl hf).keep k2⟩⟩⟩
  · cases d2 <;> first | exact g2.elim | skip
    rename_i xs ys
    have q1 := r1'
    have q3 := r3
    unfold rel at q1 q3
    obtain ⟨aa, vs, rfl, _, h1, h2⟩ := q1
    obtain ⟨bb, ws, rfl, _, h3, h4⟩ := q3
    refine ⟨aa, bb, vs, ws, rfl, .inl ⟨SqL.of h1, SqL.of h3, g2 _ _ (k.tr k2) s2 rfl fun as' hp hf => steps_zip (fun H2 k2 => ?_) fun H2 k2 => ?_⟩⟩
    · obtain ⟨b, ws, e1, e2, e3⟩ := keep_sql k2 (r1'.mono .refl hf)
      cases e1
      exact ⟨ws, e2, e3⟩
    · obtain ⟨b, ws, e1, e2, e3⟩ := keep_sql k2 (r3.mono .refl hf)
      cases e1
      exact ⟨ws, e2, e3⟩
/-! ### targets -/
/-- the slots that a target takes -/
def Tg.slots : Tg → List Nat
  | .one i => [i]
  | .two i j => [i, j]
/-- a target of a loop: what it does to the slots -/
def TgOk (K : PySem.W.Frag) (ct : CT) (t : Tg) (g : TG) : Prop := ∀ (as : List Addr) (H : Hp) (ρ ρ1 : Rho) (σ : L2.St) (d : D) (v : V) (Q : L2.St → Hp → Prop), EnvOk K ct as H ρ σ → rel K ct as H d v → bindT ρ t d = some ρ1 →
  (∀ σ', EnvOk K ct as H ρ1 σ' → (∀ vs : List Nat, (∀ i ∈ t.slots, i ∈ vs) → L2.wipe σ' vs = L2.wipe σ vs) → Q σ' H) → g v σ H Q
theorem wipe_set {σ : L2.St} {i : Nat} {o : Option V} : ∀ {vs : List Nat}, i ∈ vs → L2.wipe (σ.set i o) vs = L2.wipe σ vs
  | [], h => nomatch h
  | v :: vs, h => by
    show (L2.wipe (σ.set i o) vs).set v none = (L2.wipe σ vs).set v none
    by_cases hm : i ∈ vs
    · rw [wipe_set hm]
    · have hv : i = v := by
        rcases List.mem_cons.mp h with z | z
        · exact z
        · exact (hm z).elim
      subst hv
      have aux : ∀ (ws : List Nat) (τ : L2.St), i ∉ ws → L2.wipe (τ.set i o) ws = (L2.wipe τ ws).set i o := fun ws => by
        induction ws with
        | nil => intro τ _; rfl
        | cons w ws ih =>
          intro τ hn
          show (L2.wipe (τ.set i o) ws).set w none = ((L2.wipe τ ws).set w none).set i o
          have hw : i ≠ w := fun z => hn (by rw [z]; exact List.mem_cons_self)
          rw [ih τ (fun z => hn (List.mem_cons_of_mem _ z)), List.set_comm _ _ hw]
      rw [aux vs σ hm, List.set_set]
theorem tg_one {K : PySem.W.Frag} {ct : CT} {i : Nat} : TgOk K ct (.one i) (gName i) := by
  intro as H ρ ρ1 σ d v Q he r e h
  cases e
  exact h _ (he.set r) fun vs hv => wipe_set (hv i (by simp [Tg.slots]))
theorem tg_two {K : PySem.W.Frag} {ct : CT} {i j : Nat} : TgOk K ct (.two i j) (gTup K 2 (gCons (gName i) (gCons (gName j) gNil))) := by
  intro as H ρ ρ1 σ d v Q he r e h
  have key : ∃ x y, d = .tup [x, y] ∧ ρ1 = (ρ.set i (some (.d x))).set j (some (.d y)) := by
    cases d <;> first | (cases e; done) | skip
    rename_i xs
    match xs, e with
    | [x, y], e => cases e; exact ⟨x, y, rfl, rfl⟩
    | [], e => cases e
    | [_], e => cases e
    | _ :: _ :: _ :: _, e => cases e
  obtain ⟨x, y, rfl, rfl⟩ := key
  unfold rel at r
  obtain ⟨a, vs, rfl, t, q⟩ := r
  unfold rels at q
  obtain ⟨v1, q1, rfl, r1, q⟩ := q
  unfold rels at q
  obtain ⟨v2, q2, rfl, r2, q⟩ := q
  unfold rels at q
  subst q
  refine ⟨a, [v1, v2], rfl, t.sq, rfl, v1, [v2], rfl, v2, [], rfl, rfl, ?_⟩
  refine h _ ((he.set (rv := .d x) r1).set (rv := .d y) r2) fun vs hv => ?_
  rw [wipe_set (hv j (by simp [Tg.slots])), wipe_set (hv i (by simp [Tg.slots]))]
end
end MI
set_option linter.all false
set_option Elab.async false
set_option maxRecDepth 100000
set_option maxHeartbeats 1000000
namespace MI
open PySem PySem.Spec PyProof.Rows L2
/-! ### comprehensions -/
def wpTs (X : Cx) (ifs : List Expr) : TT := fun σ H Q => ∀ (pins : List (Addr × Obj)) (s : Shared), Inv X pins σ H s →
  wpAny (model X.prog X.w) X.A (forIn ifs true fun c r => if r = true then do let ok ← isTrue c X.env (eval c X.env); pure (ForInStep.yield ok) else pure (ForInStep.yield r)) (TP X pins σ Q) X.xe s
theorem _root_.L2.PTs.wp {X : Cx} {e : List Expr} {t : TT} (h : PTs X e t) {σ H Q} (q : t σ H Q) : wpTs X e σ H Q := fun pins s I => h.run pins s σ H Q I q
def SoundO (I : Info) (n : Nat) (N : List Str) (sc : Scope) (ifs : List Expr) (O : MI.O) : Prop := ∀ (X : Cx) (W : WX), Cn I n N sc X W → ∀ ρ S as σ H (Q : Bool → Hp → Prop), EnvOk X.K I.ct as H ρ σ → SRel X.K I.ct as H S →
  Good X.K I.ct W as (evO (I.g n) O ρ S) H σ (fun b S' => ∀ H', Keep as H H' → SRel X.K I.ct as H' S' → Q b H') → wpTs X ifs σ H Q
def OkR {α : Type} (m : R α) (q : α → Sto → Prop) : Prop := match m with
  | .ok a S => q a S
  | _ => False
theorem OkR.bind {α β : Type} {m : R α} {f : α → Sto → R β} {q : β → Sto → Prop} (g : OkR (m.bind f) q) : OkR m fun a S => OkR (f a S) q := by
  cases m with
  | ok a S => exact g
  | exc c fs S => exact g
  | fail => exact g
theorem OkR.imp {α : Type} {m : R α} {q q' : α → Sto → Prop} (g : OkR m q) (h : ∀ a S, q a S → q' a S) : OkR m q' := by
  cases m with
  | ok a S => exact h a S g
  | exc c fs S => exact g
  | fail => exact g
theorem OkR.of {α : Type} {o : Option α} {S : Sto} {q : α → Sto → Prop} (g : OkR (R.of o S) q) : ∃ a, o = some a ∧ q a S := by
  cases o with
  | none => exact g.elim
  | some a => exact ⟨a, rfl, g⟩
theorem OkR.good {α : Type} {K : PySem.W.Frag} {ct : CT} {W : WX} {as : List Addr} {H : Hp} {σ : L2.St} {m : R α} {q : α → Sto → Prop} (g : OkR m q) : Good K ct W as m H σ q := by
  cases m with
  | ok a S => exact g
  | exc c fs S => exact g.elim
  | fail => exact g
theorem compL_noexc {f : D → Sto → R Unit} {st : Sto → Bool} : ∀ {xs : List D} {S : Sto} {c fs S'}, compL f st xs S ≠ .exc c fs S'
  | [], S, c, fs, S', h => by unfold compL at h; split at h <;> cases h
  | x :: xs, S, c, fs, S', h => by
    unfold compL at h
    split at h
    · split at h
      · exact compL_noexc h
      · cases h
    · cases h
theorem compL_ok {K : PySem.W.Frag} {ct : CT} {W : WX} {as : List Addr} {H : Hp} {σ : L2.St} {α : Type} {f : D → Sto → R Unit} {st : Sto → Bool} {xs : List D} {S : Sto} {h : Unit → Sto → R α} {q : α → Sto → Prop}
    (g : Good K ct W as ((compL f st xs S).bind h) H σ q) : OkR (compL f st xs S) fun u S' => Good K ct W as (h u S') H σ q := by
  cases e : compL f st xs S with
  | ok a S1 => rw [e] at g; exact g
  | exc c fs S1 => exact (compL_noexc e).elim
  | fail => rw [e] at g; exact g
section
variable {K : PySem.W.Frag} {ct : CT} {as as' : List Addr} {H H' H0 H1 : Hp} {S : Sto}
theorem SRel.put {n : Nat} {p : Addr} {o : HO} {c : Cell} (r : SRel K ct as H S) (h : as[n]? = some p) (new : crel K ct as (upd H p o) c p) : SRel K ct as (upd H p o) (S.set n c) := by
  refine ⟨r.nd, by simp [r.len], fun i d a h1 h2 => ?_⟩
  by_cases hi : n = i
  · subst hi
    rw [h] at h2; cases h2
    rw [List.getElem?_set_self (by rw [← r.len]; exact (List.getElem?_eq_some_iff.mp h).1)] at h1
    cases h1
    exact new
  · rw [List.getElem?_set_ne hi] at h1
    refine (r.cell i d a h1 h2).mono (.at (List.mem_of_getElem? h)) (fun _ z => .inl z) (upd_ne fun z => hi ?_)
    subst z
    obtain ⟨l1, e1⟩ := List.getElem?_eq_some_iff.mp h
    obtain ⟨l2, e2⟩ := List.getElem?_eq_some_iff.mp h2
    exact (List.getElem_inj r.nd).mp (e1.trans e2.symm)
theorem loop_core {s : Src} {J : It} {f : D → Sto → R Unit} {q : Unit → Sto → Prop} {Fin : Hp → Prop} {T : V → Hp → (Hp → Prop) → Prop} (st : Steps K ct as s J H1) (k0 : Keep as H1 H0) (r0 : SRel K ct as H0 S) (g : OkR (compL f s.still s.items S) q)
    (hq : ∀ H S, Keep as H0 H → SRel K ct as H S → q () S → Fin H)
    (turn : ∀ d x H' S (Nx : Hp → Prop) q', Keep as H0 H' → SRel K ct as H' S → rel K ct as H' d x → OkR (f d S) q' → (∀ H2 S2, Keep as H' H2 → SRel K ct as H2 S2 → q' () S2 → Nx H2) → T x H' Nx) :
    ∃ W : Nat → Nat → Hp → Prop, (∃ m, W 0 m H0) ∧ ∀ i m H, W i m H → (J.stop i H ∧ Fin H) ∨ (J.go i H ∧ ∃ Nx : Hp → Prop, (∀ H', Nx H' → ∃ m', m' < m ∧ W (i + 1) m' H') ∧ ∀ x H', J.yld i H x H' → T x H' Nx) := by
  refine ⟨fun i m H => ∃ S, m = s.items.length - i ∧ i ≤ s.items.length ∧ Keep as H0 H ∧ SRel K ct as H S ∧ OkR (compL f s.still (s.items.drop i) S) q, ⟨_, S, rfl, Nat.zero_le _, .refl, r0, g⟩, fun i m H ⟨S, em, hi, k, r, g⟩ => ?_⟩
  by_cases hl : i < s.items.length
  · right
    rw [List.drop_eq_getElem_cons hl] at g
    unfold compL at g
    split at g
    · rename_i hs
      refine ⟨st.go i H S (k0.tr k) r hs hl, fun H' => ∃ S, Keep as H0 H' ∧ SRel K ct as H' S ∧ OkR (compL f s.still (s.items.drop (i + 1)) S) q, fun H' ⟨S', z1, z2, z3⟩ => ⟨_, by subst em; exact Nat.sub_lt_sub_left hl (Nat.lt_succ_self i), S', rfl, hl, z1, z2, z3⟩, fun x H' y => ?_⟩
      obtain ⟨d, e, k1, r1, q1⟩ := st.yld i H S x H' (k0.tr k) r hs hl y
      rw [List.getElem?_eq_getElem hl] at e
      cases e
      refine turn _ x H' S _ (fun _ S1 => OkR (compL f s.still (s.items.drop (i + 1)) S1) q) (k.tr k1) r1 q1 ?_ fun H2 S2 k2 r2 z => ⟨S2, (k.tr k1).tr k2, r2, z⟩
      split at g
      · rename_i S1 e2
        rw [e2]; exact g
      · exact g.elim
    · exact g.elim
  · left
    have e : i = s.items.length := by omega
    subst e
    rw [List.drop_length] at g
    unfold compL at g
    split at g
    · rename_i hs
      exact ⟨st.stop H S (k0.tr k) r hs, hq H S k r g⟩
    · exact g.elim
theorem wipe_idem (σ : L2.St) (vs : List Nat) : L2.wipe (L2.wipe σ vs) vs = L2.wipe σ vs := by
  refine List.ext_getElem? fun i => ?_
  have key : ∀ (ws : List Nat) (τ : L2.St), (L2.wipe τ ws)[i]? = if i ∈ ws then (if i < τ.length then some none else none) else τ[i]? := by
    intro ws
    induction ws with
    | nil => intro τ; simp [L2.wipe]
    | cons w ws ih =>
      intro τ
      show ((L2.wipe τ ws).set w none)[i]? = _
      rw [List.getElem?_set]
      by_cases hw : w = i
      · subst hw
        simp [L2.wipe_length]
      · rw [if_neg hw, ih]
        simp [Ne.symm hw]
  rw [key, key, L2.wipe_length]
  split <;> rfl
/-- a push -/
theorem push_ok {n : Nat} {D : Addr} {H4 : Hp} {d : MI.D} {y : V} {q : Unit → Sto → Prop} {Nx : Hp → Prop} (hn : as[n]? = some D) (r : SRel K ct as H4 S) (ry : rel K ct as H4 d y) (g : OkR (pushC S n d) q)
    (h : ∀ H2 S2, Keep as H4 H2 → SRel K ct as H2 S2 → q () S2 → Nx H2) : ∃ acc, H4 D = some (.lst acc) ∧ acc.length < sizeLine ∧ Nx (upd H4 D (.lst (acc ++ [y]))) := by
  unfold pushC at g
  split at g
  · rename_i xs hx
    split at g
    · rename_i hl
      obtain ⟨acc, h1, h2⟩ := r.cell n _ D hx hn
      have kk : Keep as H4 (upd H4 D (.lst (acc ++ [y]))) := .at (List.mem_of_getElem? hn)
      exact ⟨acc, h1, by rw [← h2.length]; exact hl, h _ _ kk (r.put hn (show crel K ct as (upd H4 D (.lst (acc ++ [y]))) (.lst (xs ++ [d])) D from ⟨_, upd_same, (h2.append (rels.cons ry rels.nil)).keep kk⟩)) g⟩
    · exact g.elim
  · exact g.elim
end
section
variable {I : Info} {n : Nat} {N : List Str} {sc : Scope} {X : Cx} {W : WX} {ρ : Rho} {S : Sto} {as : List Addr} {σ : L2.St} {H : Hp} {Q : VK} {a b c tg elt iter : Expr} {A B C : E} {pos p p2 pos2 : Pos} {scope : Scope}
theorem sO_no : SoundO I n N sc [] .no := by
  intro X W hc ρ S as σ H Q he hs g
  exact (pts_nil (X := X)).wp (g H .refl hs)
theorem sO_yes {a : Expr} (s : SoundT I n N sc a (fun ρ S => tst (ev (I.g n) A ρ S))) : SoundO I n N sc [a] (.yes A) := by
  intro X W hc ρ S as σ H Q he hs g
  refine (pts_one (pt_wp (X := X) (e := a))).wp ?_
  exact s X W hc ρ S as σ H Q he hs g
theorem Cn.blk {s : Shared} {cl : List (Str × Addr)} {C : Addr} {fp : List Addr} (hc : Cn I n N sc X W) : Cn I n N (relS scope sc) (X.blk s H scope (compEnvC scope cl C X.env) fp) (fun _ _ _ _ => False) where
  wf := hc.wf
  ws := hc.ws
  hN := hc.hN
  hsc := by rw [← hc.hsc]; rfl
  calm := hc.calm
  nd := hc.nd
  tk := takes_none5
  room := hc.room
/-- a target that a block stores to -/
def tgB (N : List Str) (scope : Scope) : Expr → Tg → Bool
  | .Name x _, .one i => decide (N[i]? = some x) && (decide (scope.names.lookup x = some .local) || decide (scope.names.lookup x = some .cell))
  | .Tuple [.Name x _, .Name y _] _ _, .two i j => decide (N[i]? = some x) && (decide (scope.names.lookup x = some .local) || decide (scope.names.lookup x = some .cell)) &&
      (decide (N[j]? = some y) && (decide (scope.names.lookup y = some .local) || decide (scope.names.lookup y = some .cell)))
  | _, _ => false
def tgG (K : PySem.W.Frag) : Tg → TG
  | .one i => gName i
  | .two i j => gTup K 2 (gCons (gName i) (gCons (gName j) gNil))
theorem tg_ok {K : PySem.W.Frag} {ct : CT} : ∀ {t : Tg}, TgOk K ct t (tgG K t)
  | .one _ => tg_one
  | .two _ _ => tg_two
theorem pg_nameS {i : Nat} {x : Str} (hN : X.N = N) (hnd : N.Nodup) (hfn : ∀ x, scope.names.lookup x = some .cell → X.fn x = true) (hl : ∀ x, scope.names.lookup x = some .local → X.env.scope.names.lookup x = some .local) (hl2 : ∀ x, scope.names.lookup x = some .cell → X.env.scope.names.lookup x = some .cell)
    (h : (decide (N[i]? = some x) && (decide (scope.names.lookup x = some .local) || decide (scope.names.lookup x = some .cell))) = true) : PG X (.Name x p) (gName i) := by
  rw [Bool.and_eq_true, Bool.or_eq_true] at h
  have h1 := of_decide_eq_true h.1
  refine pg_name (by rw [hN]; exact hnd) (by rw [hN]; exact h1) ?_ ?_
  · rcases h.2 with z | z
    · exact .inl (hl _ (of_decide_eq_true z))
    · exact .inr (hl2 _ (of_decide_eq_true z))
  · rcases h.2 with z | z
    · exact .inr (hl _ (of_decide_eq_true z))
    · exact .inl (hfn _ (of_decide_eq_true z))
theorem pg_tg {t : Tg} (hN : X.N = N) (hnd : N.Nodup) (hca : X.calm = true) (hfn : ∀ x, scope.names.lookup x = some .cell → X.fn x = true) (hl : ∀ x, scope.names.lookup x = some .local → X.env.scope.names.lookup x = some .local) (hl2 : ∀ x, scope.names.lookup x = some .cell → X.env.scope.names.lookup x = some .cell)
    (h : tgB N scope tg t = true) : PG X tg (tgG X.K t) := by
  unfold tgB at h
  split at h
  · exact pg_nameS hN hnd hfn hl hl2 h
  · rw [Bool.and_eq_true] at h
    exact pg_tup hca (pgs_cons (pg_nameS hN hnd hfn hl hl2 h.1) (pgs_cons (pg_nameS hN hnd hfn hl hl2 h.2) pgs_nil))
  · cases h
theorem pg_blk {t : Tg} {s : Shared} {cl : List (Str × Addr)} {C : Addr} {fp : List Addr} (hc : Cn I n N sc X W) (h : tgB N scope tg t = true) : PG (X.blk s H scope (compEnvC scope cl C X.env) fp) tg (tgG X.K t) := by
  refine pg_tg (X := X.blk s H scope (compEnvC scope cl C X.env) fp) (scope := scope) hc.hN hc.nd hc.calm (fun x hx => ?_) (fun x hx => lookup_relS_keep (by decide) hx) (fun x hx => lookup_relS_keep (by decide) hx) h
  show (scope.names.lookup x == some NameKind.cell) = true
  rw [hx]; rfl
/-- what a block's turn reads -/
abbrev teB (X : Cx) (scope : Scope) (elt : Expr) : TE := fun σ H Q => ∀ (s : Shared) (H0 : Hp) (C : Addr) (cl : List (Str × Addr)) (fp : List Addr), wpE (X.blk s H0 scope (compEnvC scope cl C X.env) fp) elt σ H Q
abbrev ttB (X : Cx) (scope : Scope) (ifs : List Expr) : TT := fun σ H Q => ∀ (s : Shared) (H0 : Hp) (C : Addr) (cl : List (Str × Addr)) (fp : List Addr), wpTs (X.blk s H0 scope (compEnvC scope cl C X.env) fp) ifs σ H Q
abbrev tiB (X : Cx) (scope : Scope) (tg it : Expr) : TI := fun σ H Q => ∀ (s : Shared) (H0 : Hp) (C : Addr) (cl : List (Str × Addr)) (fp : List Addr), wpI (X.blk s H0 scope (compEnvC scope cl C X.env) fp) tg it σ H Q
/-- the turn's end: test, element, push -/
theorem turn_end {ifs : List Expr} {O : MI.O} {k : Nat} {D : Addr} {q' : Unit → Sto → Prop} {Nx : Hp → Prop} (hc : Cn I n N sc X W) (so : SoundO I n N (relS scope sc) ifs O) (se : SoundE I n N (relS scope sc) elt A)
    (hk : as[k]? = some D) (he : EnvOk X.K I.ct as H ρ σ) (hs : SRel X.K I.ct as H S) (g : OkR (compTn (evO (I.g n) O) (ev (I.g n) A) k ρ S) q') (h : ∀ H2 S2, Keep as H H2 → SRel X.K I.ct as H2 S2 → q' () S2 → Nx H2) :
    ttB X scope ifs σ H fun b H3 => if b = true then teB X scope elt σ H3 fun y H4 => ∃ acc, H4 D = some (.lst acc) ∧ acc.length < sizeLine ∧ Nx (upd H4 D (.lst (acc ++ [y]))) else Nx H3 := by
  intro s H0 C cl fp
  refine so _ _ hc.blk ρ S as σ H _ he hs (OkR.good (OkR.imp (OkR.bind g) fun b S1 g1 H3 k3 r3 => ?_))
  cases b with
  | false => exact h _ _ k3 r3 g1
  | true =>
    intro s H0 C cl fp
    refine se _ _ hc.blk ρ S1 as σ H3 _ (he.keep k3) r3 (OkR.good (OkR.imp (OkR.bind g1) fun rv S2 g2 y H4 r4 => ?_))
    obtain ⟨d, e, g3⟩ := OkR.of g2.bind
    obtain ⟨k4, s4, r5⟩ := r4.data e
    exact push_ok hk s4 r5 g3 fun H5 S5 k5 r6 z => h H5 S5 ((k3.tr k4).tr k5) r6 z
/-- the new list goes out -/
theorem out_ok {K : PySem.W.Frag} {ct : CT} {D : Addr} {H0 H1 H2 : Hp} {S1 : Sto} {Q : VK} {W : WX} (l : as.length = S.length) (k0 : Keep as H0 H1) (hD : H1 D = none) (hn : D ∉ as) (k2 : Keep (as ++ [D]) (upd H1 D (.lst [])) H2) (r : SRel K ct (as ++ [D]) H2 S1)
    (g : Good K ct W as (outC S.length S1) H0 σ (ResQ K ct as H0 Q)) : Q (.ref D) H2 := by
  have l1 : S1.length = S.length + 1 := by rw [← r.len, ← l]; simp
  obtain ⟨c, hc⟩ : ∃ c, S1[S.length]? = some c := ⟨_, List.getElem?_eq_getElem (by omega)⟩
  unfold outC at g
  rw [hc] at g
  have e : S1 = S1.take S.length ++ [c] := by
    refine List.ext_getElem? fun i => ?_
    rw [List.getElem?_append]
    simp only [List.length_take, List.getElem?_take]
    by_cases hi : i < S.length
    · rw [if_pos (by omega), if_pos hi]
    · rw [if_neg (by omega)]
      by_cases h2 : i = S.length
      · subst h2
        rw [hc, show S.length - min S.length S1.length = 0 by omega]; rfl
      · rw [List.getElem?_eq_none (by omega), List.getElem?_eq_none (by simp; omega)]
  have kk : Keep as H1 H2 := (Keep.new hD).trans (k2.trans .refl fun _ z => .inl z) (fun a z => by
    rcases List.mem_append.mp z with z | z
    · exact .inl z
    · exact .inr (by rw [List.mem_singleton.mp z]; exact hD))
  exact g (.ref D) H2 ⟨k0.tr kk, D, rfl, k0.free hn hD, by rw [← e]; exact r⟩
theorem fresh_at {D : Addr} (hD : H D = none) : ∀ a ∈ as ++ [D], a ∈ as ∨ H a = none := fun a z => by
  rcases List.mem_append.mp z with z | z
  · exact .inl z
  · exact .inr (by rw [List.mem_singleton.mp z]; exact hD)
theorem wipe_len (ρ : Rho) : ∀ vs : List Nat, (MI.wipe ρ vs).length = ρ.length
  | [] => rfl
  | v :: vs => by show ((MI.wipe ρ vs).set v none).length = _; rw [List.length_set, wipe_len ρ vs]
def slotsIn (t : Tg) (vs : List Nat) : Bool := t.slots.all fun i => vs.contains i
theorem slots_in {t : Tg} {vs : List Nat} (h : slotsIn t vs = true) : ∀ i ∈ t.slots, i ∈ vs := fun i hi => by
  have := List.all_eq_true.mp h i hi
  simpa using this
theorem tLc_ok {ifs : List Expr} {O : MI.O} {IT : MI.I} {t : Tg} {vs : List Nat} (hc : Cn I n N sc X W) (si : SoundI I n N sc tg iter IT) (so : SoundO I n N (relS scope sc) ifs O) (se : SoundE I n N (relS scope sc) elt A) (hsl : slotsIn t vs = true)
    (he : EnvOk X.K I.ct as H ρ σ) (hs : SRel X.K I.ct as H S) (g : Good X.K I.ct W as (ev (I.g n) (.comp A t IT O vs) ρ S) H σ (ResQ X.K I.ct as H Q)) :
    tLc (wpI X tg iter) (tgG X.K t) (ttB X scope ifs) (teB X scope elt) vs σ H Q := by
  unfold ev at g
  refine si X W hc ρ S as σ H _ he hs (g.bind.imp fun s S1 g1 J H1 k1 s1 st0 stp => ?_)
  intro D hD
  have hn := s1.off hD
  have pf : as <+: as ++ [D] := List.prefix_append _ _
  have kn : Keep as H1 (upd H1 D (.lst [])) := .new hD
  have r0 : SRel X.K I.ct (as ++ [D]) (upd H1 D (.lst [])) (S1 ++ [.lst []]) := s1.push hD kn (fun a ha => upd_ne fun z => hn (z ▸ ha)) ⟨[], upd_same, rels.nil⟩
  have ek : (as ++ [D])[S1.length]? = some D := by rw [← s1.len]; simp
  refine loop_core (stp (as ++ [D]) pf (fresh_at hD)) (Keep.at (by simp)) r0 (compL_ok g1) (fun H2 S2 k2 r2 z => out_ok s1.len k1 hD hn k2 r2 z) fun d x H' S' Nx q' k' r' rx g' hN => ?_
  unfold compW at g'
  split at g'
  · exact g'.elim
  · rename_i ρ1 hb
    have he' : EnvOk X.K I.ct (as ++ [D]) H' (MI.wipe ρ vs) (L2.wipe σ vs) := ((((he.keep k1).mono kn (fresh_at hD) pf)).keep k').wipe vs
    refine tg_ok (as ++ [D]) H' _ ρ1 _ d x _ he' rx hb fun σ2 he2 hw => ⟨by rw [hw vs (slots_in hsl), wipe_idem], ?_⟩
    exact turn_end hc so se ek he2 r' g' hN
theorem sE_comp {ifs : List Expr} {O : MI.O} {IT : MI.I} {t : Tg} {own : List (Str × Nat)} (si : SoundI I n N sc tg iter IT) (so : SoundO I n N (relS scope sc) ifs O) (se : SoundE I n N (relS scope sc) elt A) (hsl : slotsIn t (own.map (·.2)) = true)
    (hb : blkC N sc scope own = true) (ht : tgB N scope tg t = true) (hit : isSet iter = false) : SoundE I n N sc (.ListComp elt [⟨tg, iter, ifs, 0⟩] scope pos) (.comp A t IT O (own.map (·.2))) := by
  intro X W hc ρ S as σ H Q he hs g
  refine (pe_lc hc.calm (by rw [hc.hN]; exact hc.nd) (pi_wp (X := X) (tg := tg) (it := iter)) (blkOk_by (by rw [hc.hN, hc.hsc]; exact hb)) (fun s H C cl fp => pg_blk hc ht) (tt := ttB X scope ifs) (te := teB X scope elt)
    (fun s H C cl fp => ⟨fun pins s' σ H Q I h => h s _ C cl fp pins s' I⟩) (fun s H C cl fp => ⟨fun pins s' σ H Q I h => h s _ C cl fp pins s' I⟩) (fold_plain hit)).wp ?_
  exact tLc_ok hc si so se hsl he hs g
/-- two clauses -/
theorem tLc2_ok {tg1 iter1 : Expr} {ifs1 : List Expr} {O : MI.O} {IT IT1 : MI.I} {t t1 : Tg} {vs vs1 : List Nat} (hc : Cn I n N sc X W) (si : SoundI I n N sc tg iter IT) (si1 : SoundI I n N (relS scope sc) tg1 iter1 IT1) (so : SoundO I n N (relS scope sc) ifs1 O) (se : SoundE I n N (relS scope sc) elt A) (hsl : slotsIn t vs = true) (hsl1 : slotsIn t1 vs1 = true)
    (he : EnvOk X.K I.ct as H ρ σ) (hs : SRel X.K I.ct as H S) (g : Good X.K I.ct W as (ev (I.g n) (.comp2 A t IT t1 IT1 O vs vs1) ρ S) H σ (ResQ X.K I.ct as H Q)) :
    tLc2 (wpI X tg iter) (tgG X.K t) tYes (tiB X scope tg1 iter1) (tgG X.K t1) (ttB X scope ifs1) (teB X scope elt) vs vs1 σ H Q := by
  unfold ev at g
  refine si X W hc ρ S as σ H _ he hs (g.bind.imp fun s S1 g1 J H1 k1 s1 st0 stp => ?_)
  intro D hD
  have hn := s1.off hD
  have pf : as <+: as ++ [D] := List.prefix_append _ _
  have kn : Keep as H1 (upd H1 D (.lst [])) := .new hD
  have r0 : SRel X.K I.ct (as ++ [D]) (upd H1 D (.lst [])) (S1 ++ [.lst []]) := s1.push hD kn (fun a ha => upd_ne fun z => hn (z ▸ ha)) ⟨[], upd_same, rels.nil⟩
  have ek : (as ++ [D])[S1.length]? = some D := by rw [← s1.len]; simp
  refine loop_core (stp (as ++ [D]) pf (fresh_at hD)) (Keep.at (by simp)) r0 (compL_ok g1) (fun H2 S2 k2 r2 z => out_ok s1.len k1 hD hn k2 r2 z) fun d x H' S' Nx q' k' r' rx g' hN => ?_
  unfold compW at g'
  split at g'
  · exact g'.elim
  · rename_i ρ1 hb
    have he' : EnvOk X.K I.ct (as ++ [D]) H' (MI.wipe ρ vs) (L2.wipe σ vs) := ((((he.keep k1).mono kn (fresh_at hD) pf)).keep k').wipe vs
    refine tg_ok (as ++ [D]) H' _ ρ1 _ d x _ he' rx hb fun σ2 he2 hw => ⟨by rw [hw vs (slots_in hsl), wipe_idem], ?_⟩
    show tiB X scope tg1 iter1 σ2 H' _
    intro s' H0' C' cl' fp'
    refine si1 _ _ hc.blk ρ1 S' (as ++ [D]) σ2 H' _ he2 r' (OkR.good (OkR.imp (OkR.bind g') fun s2 S2 g2 J1 H4 k4 r4 st1 stp1 => ?_))
    refine loop_core (stp1 (as ++ [D]) (List.prefix_refl _) fun _ z => .inl z) .refl r4 g2 (fun H5 S5 k5 r5 z => hN H5 S5 (k4.tr k5) r5 z) fun d2 x2 H6 S6 Nx2 q2 k6 r6 rx2 g6 hN2 => ?_
    split at g6
    · exact g6.elim
    · rename_i ρ2 hb2
      refine tg_ok (as ++ [D]) H6 _ ρ2 _ d2 x2 _ (((he2.keep k4).keep k6).wipe vs1) rx2 hb2 fun σ3 he3 hw3 => ⟨by rw [hw3 vs1 (slots_in hsl1), wipe_idem], ?_⟩
      exact turn_end hc so se ek he3 r6 g6 hN2
theorem sE_comp2 {tg1 iter1 : Expr} {ifs1 : List Expr} {O : MI.O} {IT IT1 : MI.I} {t t1 : Tg} {own : List (Str × Nat)} {vs1 : List Nat} (si : SoundI I n N sc tg iter IT) (si1 : SoundI I n N (relS scope sc) tg1 iter1 IT1) (so : SoundO I n N (relS scope sc) ifs1 O) (se : SoundE I n N (relS scope sc) elt A) (hsl : slotsIn t (own.map (·.2)) = true) (hsl1 : slotsIn t1 vs1 = true)
    (hv : (vs1.all fun i => (own.map (·.2)).contains i) = true) (hb : blkC N sc scope own = true) (ht : tgB N scope tg t = true) (ht1 : tgB N scope tg1 t1 = true) (hit : isSet iter = false) (hit1 : isSet iter1 = false) :
    SoundE I n N sc (.ListComp elt [⟨tg, iter, [], 0⟩, ⟨tg1, iter1, ifs1, 0⟩] scope pos) (.comp2 A t IT t1 IT1 O (own.map (·.2)) vs1) := by
  intro X W hc ρ S as σ H Q he hs g
  refine (pe_lc2 hc.calm (by rw [hc.hN]; exact hc.nd) (pi_wp (X := X) (tg := tg) (it := iter)) (blkOk_by (by rw [hc.hN, hc.hsc]; exact hb)) (fun i hi => by have := List.all_eq_true.mp hv i hi; simpa using this) (fun s H C cl fp => pg_blk hc ht) (tt := tYes) (fun s H C cl fp => pts_nil)
    (wi1 := tiB X scope tg1 iter1) (fun s H C cl fp => ⟨fun pins s' σ H Q I h => h s _ C cl fp pins s' I⟩) (fun s H C cl fp => pg_blk hc ht1) (tt1 := ttB X scope ifs1) (fun s H C cl fp => ⟨fun pins s' σ H Q I h => h s _ C cl fp pins s' I⟩) (te := teB X scope elt) (fun s H C cl fp => ⟨fun pins s' σ H Q I h => h s _ C cl fp pins s' I⟩) (fold_plain hit) (fun env x => fold_plain hit1 x)).wp ?_
  exact tLc2_ok hc si si1 so se hsl hsl1 he hs g
end
end MI
set_option linter.all false
set_option Elab.async false
set_option maxRecDepth 100000
set_option maxHeartbeats 1000000
namespace MI
open PySem PySem.Spec PyProof.Rows L2
/-! ### instances -/
section
variable {K : PySem.W.Frag} {ct : CT} {as as' : List Addr} {H H' : Hp} {S : Sto} {W : WX}
theorem obj_at {c : Nat} {x : RV} {v : V} (s : SRel K ct as H S) (r : vrel K ct as H x v) (h : isObjOf S c x = true) :
    ∃ a dx fs ds, v = .ref a ∧ H a = some (.ins (ct.adr c) dx fs) ∧ fs.map (·.1) = (ct.nms c).take ds.length ∧ rels K ct as H ds (fs.map (·.2)) := by
  unfold isObjOf at h
  split at h
  · rename_i e ds
    have := beq_iff_eq.mp h
    subst this
    have r' : rel K ct as H (.obj e ds) v := r
    unfold rel at r'
    obtain ⟨a, dx, fs, e1, _, e2, e3, e4⟩ := r'
    exact ⟨a, dx, fs, ds, e1, e2, e3, e4⟩
  · split at h
    · rename_i m e ds hm
      have := beq_iff_eq.mp h
      subst this
      obtain ⟨a, e1, e2⟩ := r
      obtain ⟨dx, fs, e3, e4, e5⟩ := s.cell _ _ _ hm e1
      exact ⟨a, dx, fs, ds, e2, e3, e4, e5⟩
    · cases h
  · cases h
theorem lookup_at {f : Str} {k : Nat} : ∀ {ns : List Str} {fs : List (Str × V)} {ds : List D}, ns.Nodup → fs.map (·.1) = ns.take ds.length → rels K ct as H ds (fs.map (·.2)) → ns[k]? = some f → ∀ {d : D}, ds[k]? = some d → ∃ v, fs.lookup f = some v ∧ rel K ct as H d v := by
  induction k with
  | zero =>
    intro ns fs ds nd e r h1 d h2
    cases ns with
    | nil => cases h1
    | cons n ns =>
      cases h1
      cases ds with
      | nil => cases h2
      | cons x ds =>
        cases h2
        cases fs with
        | nil => cases e
        | cons p fs =>
          simp only [List.map_cons, List.length_cons, List.take_succ_cons, List.cons.injEq] at e
          unfold rels at r
          obtain ⟨v, r', e2, r1, _⟩ := r
          simp only [List.map_cons, List.cons.injEq] at e2
          refine ⟨p.2, ?_, by rw [e2.1]; exact r1⟩
          rw [show p = (f, p.2) by rw [← e.1]]
          simp [List.lookup]
  | succ k ih =>
    intro ns fs ds nd e r h1 d h2
    cases ns with
    | nil => cases h1
    | cons n ns =>
      cases ds with
      | nil => cases h2
      | cons x ds =>
        cases fs with
        | nil => cases e
        | cons p fs =>
          simp only [List.map_cons, List.length_cons, List.take_succ_cons, List.cons.injEq] at e
          unfold rels at r
          obtain ⟨v, r', e2, _, r2⟩ := r
          simp only [List.map_cons, List.cons.injEq] at e2
          rw [List.nodup_cons] at nd
          rw [← e2.2] at r2
          obtain ⟨u, h3, h4⟩ := ih nd.2 e.2 r2 h1 h2
          refine ⟨u, ?_, h4⟩
          have hm : f ∈ ns := List.mem_of_getElem? h1
          have hne : (f == p.1) = false := by
            rw [beq_eq_false_iff_ne]
            rintro rfl
            rw [e.1] at hm
            exact nd.1 hm
          show List.lookup f ((p.1, p.2) :: fs) = some u
          simp only [List.lookup, hne]
          exact h3
theorem lookup_out {m : Str} {ns : List Str} : ∀ {fs : List (Str × V)} {k : Nat}, fs.map (·.1) = ns.take k → m ∉ ns → fs.lookup m = none
  | [], _, _, _ => rfl
  | p :: fs, k, e, h => by
    cases ns with
    | nil => simp at e
    | cons n ns =>
      cases k with
      | zero => cases e
      | succ k =>
        simp only [List.map_cons, List.take_succ_cons, List.cons.injEq] at e
        have hne : (m == p.1) = false := by
          rw [beq_eq_false_iff_ne]
          rintro rfl
          exact h (by rw [e.1]; exact List.mem_cons_self)
        show List.lookup m ((p.1, p.2) :: fs) = none
        simp only [List.lookup, hne]
        exact lookup_out e.2 fun z => h (List.mem_cons_of_mem _ z)
theorem xrel.sub {c : Nat} {fs : List D} {cls : Value} {d : Option Addr} (h : ∀ a ∈ as', a ∈ as) (r : xrel K ct as H c fs cls d) : xrel K ct as' H c fs cls d := by
  obtain ⟨e, z⟩ := r
  refine ⟨e, ?_⟩
  rcases z with z | ⟨dd, kvs, vs, h1, h2, h3, h4, h5⟩
  · exact .inl z
  · exact .inr ⟨dd, kvs, vs, h1, fun q => h2 (h _ q), h3, h4.sub h, h5⟩
end
section
variable {X : Cx} {CX : CXT} {k : Nat} {f C : Addr} {fd : FuncData} {ps : List Str} {sp : Sp} {E : L2.St → XK} {x m : Str} {p pos apos : Pos} {e o : Expr} {es : List Expr} {ta : TE} {t : TA}
/-- C(..) where what is raised is wished for at the caller's slots -/
def tMakeS (C : Addr) (sp : Sp) (E : L2.St → XK) (t : TA) : TE := fun σ H Q => t σ H fun vs H1 => ∀ x dx, H1 x = none → H1 dx = none → dx ≠ x →
  sp (.ref x :: vs) (upd (upd H1 dx (.own x)) x (.ins C dx [])) (fun v H2 => v = .non ∧ Q (.ref x) H2) (E σ)
theorem run_makeS {pins : List (Addr × Obj)} {σ : L2.St} {H : Hp} {s : Shared} {Q : VK} {us : List Value} {vs : List V} (M : Mk X.K C f) (F : FnOk X.prog X.w X.K X.mg X.base CX k f fd ps sp) (hr : Room (k + 1) X.A) (hb : Binds X.K fd ps [])
    (hx : PassesAt CX X σ (E σ)) (I : Inv X pins σ H s) (r : Vals vs us)
    (h : ∀ x dx, H x = none → H dx = none → dx ≠ x → sp (.ref x :: vs) (upd (upd H dx (.own x)) x (.ins C dx [])) (fun v H2 => v = .non ∧ Q (.ref x) H2) (E σ)) :
    wpAny (model X.prog X.w) X.A (call (.ref C) us) (EP X pins σ Q) X.xe s := by
  obtain ⟨sz, hsz⟩ : ∃ z, z = s.heap.objs.size := ⟨_, rfl⟩
  have I2 := Inv.made (C := C) I
  rw [← hsz] at I2
  have want := h (sz + 1) sz (I.hok.fresh (by omega)) (I.hok.fresh (by omega)) (Nat.ne_of_lt (Nat.lt_succ_self _))
  have rs : Vals (V.ref (sz + 1) :: vs) (Value.ref (sz + 1) :: us) := .cons rfl r
  have room := hr.make C us []
  have ready := I2.env0.make C us []
  have bound := hb _ (Value.ref (sz + 1) :: us) I2.kIn (by rw [List.append_nil, ← rs.length]; exact F.len _ _ _ _ want)
  rw [List.append_nil] at bound
  have body := F.run _ X.stack _ _ _ (Value.ref (sz + 1) :: us) _ _ _ room ready bound rs want
  subst hsz
  refine wpAny_call (make_map (f := f) I.kIn M.makes M.init (beq_iff_eq.mp M.fn) (codeAny_mono body fun res s' hq => ?_))
  match res, hq with
  | .error e, hq => exact hx pins _ _ e s' I2 hq
  | .ok (.ret u), hq =>
    obtain ⟨v, H', I3, rv, ev, q3⟩ := I2.after hq
    subst ev
    exact ⟨rv, V.ref _, H', I3, rfl, q3⟩
  | .ok .next, hq => exact hq.elim
  | .ok .brk, hq => exact hq.elim
  | .ok .cont, hq => exact hq.elim
theorem pe_makeS (M : Mk X.K C f) (F : FnOk X.prog X.w X.K X.mg X.base CX k f fd ps sp) (hr : Room (k + 1) X.A) (hg : Gl X x) (hm : X.mg x = some (.ref C)) (hb : Binds X.K fd ps []) (hx : ∀ σ, PassesAt CX X σ (E σ))
    (ha : PA X (e :: es) t) (hdb : (x == ("__debug__" : Str)) = false) (he : starEach (e :: es) X.env = (false, eval e X.env) :: starEach es X.env) (hpl : (backTo pos (starEach es X.env)).any (·.1) = false) :
    PE X (.Call (.Name x p) (e :: es) [] pos) (tMakeS C sp E t) := ⟨fun pins s σ H Q I h =>
  wpAny_Call_Name_kw (ld_glob I hg hm (PySem.W.callWith_K (h₀ := X.base) I.ok.mod.kin M.kp (thn (ha.run pos pins s σ H _ I h) fun us s1 ⟨vs, H1, I1, r, q⟩ => ⟨I1.kIn, run_makeS M F hr hb (hx σ) I1 r q⟩) he hpl) hdb)⟩
theorem pe_makeS0 (M : Mk X.K C f) (F : FnOk X.prog X.w X.K X.mg X.base CX k f fd ps sp) (hr : Room (k + 1) X.A) (hg : Gl X x) (hm : X.mg x = some (.ref C)) (hb : Binds X.K fd ps []) (hx : ∀ σ, PassesAt CX X σ (E σ))
    (hdb : (x == ("__debug__" : Str)) = false) : PE X (.Call (.Name x p) [] [] pos) (tMakeS C sp E tNil) := ⟨fun pins s σ H Q I h =>
  wpAny_Call_Name_kw (ld_glob I hg hm (PySem.W.callWith_K0 I.kIn M.kp (run_makeS (us := []) M F hr hb (hx σ) I .nil h)) hdb)⟩
/-- o.m(..) likewise -/
def tMethS (C : Addr) (m : Str) (sp : Sp) (E : L2.St → XK) (ta : TE) (t : TA) : TE := fun σ H Q => ta σ H fun x H1 => ∃ a dx fs, x = .ref a ∧ H1 a = some (.ins C dx fs) ∧ fs.lookup m = none ∧
  t σ H1 fun vs H2 => sp (x :: vs) H2 Q (E σ)
theorem pe_methS {pl : Sem Bool} (he : PE X o ta) (c : Cls X.K C) (hm : Meth X.K C m f) (F : FnOk X.prog X.w X.K X.mg X.base CX k f fd ps sp) (hr : Room k X.A) (hb : Binds X.K fd ps []) (hx : ∀ σ, PassesAt CX X σ (E σ)) (ha : PA X (e :: es) t)
    (hst : starEach (e :: es) X.env = (false, eval e X.env) :: starEach es X.env) (hpl : (backTo pos (starEach es X.env)).any (·.1) = false)
    (ht : eval (.Call (.Attribute o m apos) (e :: es) [] pos) X.env = (do
      let ov ← eval o X.env
      standAt apos.atName
      let (f, first) ← holding [ov] (getMethod ov m pl)
      callWith pos f first (backTo pos (starEach (e :: es) X.env)) (backToKw pos (keywordEach [] X.env)))) :
    PE X (.Call (.Attribute o m apos) (e :: es) [] pos) (tMethS C m sp E ta t) := ⟨fun pins s σ H Q I h => by
  refine PySem.W.methodCall_KW (pl := pl) (thn (he.run pins s σ H _ I h) fun u s1 ⟨x, H1, I1, rx, a, dx, fs, ex, ea, l, q⟩ => ?_) ht
  cases ex
  cases (show u = Value.ref a from rx)
  exact getmeth_ok I1 ea c hm l (PySem.W.callWith_K (first := [.ref a]) (h₀ := X.base) I.ok.mod.kin hm.kp (thn (ha.run pos pins s1 σ H1 _ I1 q) fun us s2 ⟨vs, H2, I2, r, q2⟩ => ⟨I2.kIn, run_fnS (us := .ref a :: us) (vs := .ref a :: vs) F hr hb (hx σ) I2 (.cons rfl r) q2⟩) hst hpl)⟩
theorem pe_methS0 {pl : Sem Bool} (he : PE X o ta) (c : Cls X.K C) (hm : Meth X.K C m f) (F : FnOk X.prog X.w X.K X.mg X.base CX k f fd ps sp) (hr : Room k X.A) (hb : Binds X.K fd ps []) (hx : ∀ σ, PassesAt CX X σ (E σ))
    (ht : eval (.Call (.Attribute o m apos) [] [] pos) X.env = (do
      let ov ← eval o X.env
      standAt apos.atName
      let (f, first) ← holding [ov] (getMethod ov m pl)
      callWith pos f first (backTo pos (starEach [] X.env)) (backToKw pos (keywordEach [] X.env)))) :
    PE X (.Call (.Attribute o m apos) [] [] pos) (tMethS C m sp E ta tNil) := ⟨fun pins s σ H Q I h => by
  refine PySem.W.methodCall_KW (pl := pl) (thn (he.run pins s σ H _ I h) fun u s1 ⟨x, H1, I1, rx, a, dx, fs, ex, ea, l, q⟩ => ?_) ht
  cases ex
  cases (show u = Value.ref a from rx)
  exact getmeth_ok I1 ea c hm l (PySem.W.callWith_K0 I1.kIn hm.kp (run_fnS (us := [.ref a]) (vs := [.ref a]) F hr hb (hx σ) I1 (.cons rfl .nil) q))⟩
end
section
variable {I : Info} {n : Nat} {N : List Str} {sc : Scope} {X : Cx} {W : WX} {ρ : Rho} {S : Sto} {as : List Addr} {σ : L2.St} {H : Hp} {Q : VK} {a b c tg elt iter : Expr} {A B C : E} {pos p p2 pos2 : Pos} {scope : Scope}
theorem sE_fld {cl k : Nat} {f : Str} (sa : SoundE I n N sc a A) (hcl : cl ∈ I.obs) (hf : (I.ct.nms cl)[k]? = some f) (hno : noCall a = true) : SoundE I n N sc (.Attribute a f pos) (.fld cl k A) := by
  intro X W hc ρ S as σ H Q he hs g
  refine (pe_fld (X := X) (pe_wp (X := X) (e := a)) (attr_plain hno)).wp ?_
  unfold ev at g
  refine sa.then_ hc he hs g fun rv S1 v H1 r g1 => ?_
  obtain ⟨rv2, e, q⟩ := Good.of g1
  obtain ⟨k1, s1⟩ := r.store
  have q' := ResQ.mono k1 q
  have fin : ∀ (a : Addr) (dx : Addr) (fs : List (Str × V)) (ds : List D) (d : D), v = .ref a → H1 a = some (.ins (I.ct.adr cl) dx fs) → fs.map (·.1) = (I.ct.nms cl).take ds.length → rels X.K I.ct as H1 ds (fs.map (·.2)) → ds[k]? = some d → rv2 = .d d →
      ∃ a C dx fs u, v = .ref a ∧ H1 a = some (.ins C dx fs) ∧ Cls X.K C ∧ NoAttr X.K C f ∧ fs.lookup f = some u ∧ Q u H1 := fun aa dx fs ds d e1 e2 e3 e4 e5 e6 => by
    obtain ⟨u, h1, h2⟩ := lookup_at (hc.ws.nnd cl).1 e3 e4 hf e5
    subst e6
    exact ⟨aa, _, dx, fs, u, e1, e2, hc.ws.cls cl hcl, hc.ws.nat cl hcl f (List.mem_of_getElem? hf), h1, q' u H1 (Res.ofD .refl s1 h2)⟩
  cases hfo : fldOf S1 cl k rv with
  | none => rw [hfo] at e; cases e
  | some d =>
    rw [hfo] at e
    have e6 : rv2 = .d d := by cases e; rfl
    unfold fldOf at hfo
    split at hfo
    · rename_i e' xs
      split at hfo
      · rename_i h; subst h
        have r' : rel X.K I.ct as H1 (.obj e' xs) v := r.2.2
        unfold rel at r'
        obtain ⟨aa, dx, fs, e1, _, e2, e3, e4⟩ := r'
        exact fin aa dx fs xs d e1 e2 e3 e4 hfo e6
      · cases hfo
    · rename_i e' xs
      have r' : rel X.K I.ct as H1 (.exc e' xs) v := r.2.2
      unfold rel at r'
      exact r'.elim
    · split at hfo
      · rename_i m e' xs hm
        split at hfo
        · rename_i h; subst h
          obtain ⟨aa, e1, e2⟩ := r.2.2
          obtain ⟨dx, fs, e3, e4, e5⟩ := s1.cell _ _ _ hm e1
          exact fin aa dx fs xs d e2 e3 e4 e5 hfo e6
        · cases hfo
      · cases hfo
    · rename_i e' xs
      split at hfo
      · rename_i h; subst h
        obtain ⟨_, aa, e1, _, s2⟩ := r
        have r' := frozen s2 (show Cell.freeze (.inst e' xs) = some (.obj e' xs) from rfl)
        unfold rel at r'
        obtain ⟨a2, dx, fs, e2, _, e3, e4, e5⟩ := r'
        cases e2
        exact fin aa dx fs xs d e1 e3 e4 e5 hfo e6
      · cases hfo
    · cases hfo
theorem sE_prop {cl f : Nat} {m : Str} (sa : SoundE I n N sc a A) (hp : (cl, f, m) ∈ I.prs) (hlt : (I.T.fds[f]?).isSome = true) (hno : noCall a = true) : SoundE I n N sc (.Attribute a m pos) (.prop cl f A) := by
  intro X W hc ρ S as σ H Q he hs g
  obtain ⟨fd, hfd⟩ := Option.isSome_iff_exists.mp hlt
  obtain ⟨hcl, pp, hpp⟩ := hc.ws.pr cl f m hp
  have F := hc.wf.fns f fd hfd
  refine (pe_prop (X := X) (E := fun _ _ _ => False) (pe_wp (X := X) (e := a)) (hc.ws.cls cl hcl) hpp F hc.room (hc.wf.bnd f fd hfd) .nil ?_ (attr_plain hno)).wp ?_
  · rintro pins σ H s e s' _ ⟨_, _, _, _, _, _, _, _, _, _, _, _, z⟩
    exact z.elim
  · unfold ev at g
    refine sa.hand_ hc he hs g fun rv S1 v H1 k1 s1 r1 g1 => ?_
    split at g1
    · rename_i ho
      obtain ⟨aa, dx, fs, ds, e1, e2, _, _⟩ := obj_at s1 r1 ho
      refine ⟨aa, dx, fs, e1, e2, ?_⟩
      subst e1
      refine ⟨[rv], S1, as, ⟨_, [], rfl, r1, by unfold vrels; rfl⟩, s1, ?_⟩
      have g' : Good X.K I.ct W as (callN I.T n f [rv] S1).noExc H1 σ (ResQ X.K I.ct as H Q) := g1
      cases h : callN I.T n f [rv] S1 with
      | ok rv' S' => rw [h] at g'; exact ResQ.mono k1 g'
      | exc c fs S' => rw [h] at g'; exact g'.elim
      | fail => rw [h] at g'; exact g'
    · exact g1.elim
theorem sE_meth {cl f : Nat} {m : Str} {e : Expr} {es : List Expr} {Es : MI.Es} {apos : Pos} (sa : SoundE I n N sc a A) (hp : (cl, f, m) ∈ I.mes) (hlt : (I.T.fds[f]?).isSome = true) (sr : SoundA I n N sc (e :: es) Es) (hst : (e :: es).all (fun e => !isStar e) = true)
    (ht : ∀ env, ∃ pl, eval (.Call (.Attribute a m apos) (e :: es) [] pos) env = (do
      let ov ← eval a env
      standAt apos.atName
      let (f, first) ← holding [ov] (getMethod ov m pl)
      callWith pos f first (backTo pos (starEach (e :: es) env)) (backToKw pos (keywordEach [] env)))) : SoundE I n N sc (.Call (.Attribute a m apos) (e :: es) [] pos) (.meth cl f A Es) := by
  intro X W hc ρ S as σ H Q he hs g
  obtain ⟨fd, hfd⟩ := Option.isSome_iff_exists.mp hlt
  obtain ⟨hcl, hm, hni⟩ := hc.ws.me cl f m hp
  have F := hc.wf.fns f fd hfd
  obtain ⟨pl, ht⟩ := ht X.env
  have hst' := hst
  rw [List.all_cons, Bool.and_eq_true] at hst'
  refine (pe_methS (X := X) (pl := pl) (pe_wp (X := X) (e := a)) (hc.ws.cls cl hcl) hm F (hc.room.mono (by omega)) (hc.wf.bnd f fd hfd) (fun σ => passAt hc.tk σ) (pa_wp (X := X) (es := e :: es)) (star_plain (by simpa using hst'.1)) (back_none hst'.2) ht).wp ?_
  unfold ev at g
  refine sa.hand_ hc he hs g fun rv S1 v H1 k1 s1 r1 g1 => ?_
  split at g1
  · rename_i ho
    obtain ⟨aa, dx, fs, ds, e1, e2, e3, _⟩ := obj_at s1 r1 ho
    refine ⟨aa, dx, fs, e1, e2, lookup_out e3 hni, ?_⟩
    refine sr X W hc ρ S1 as σ H1 _ (he.keep k1) s1 (g1.bind.imp fun rvs S2 g2 vs H2 k2 s2 r2 => ?_)
    exact sp_of (rvs := rv :: rvs) ⟨_, _, rfl, r1.keep k2, r2⟩ s2 (ResQ.back (k1.tr k2) (Good.mono k2 g2))
  · exact g1.elim
theorem sE_meth0 {cl f : Nat} {m : Str} {apos : Pos} (sa : SoundE I n N sc a A) (hp : (cl, f, m) ∈ I.mes) (hlt : (I.T.fds[f]?).isSome = true)
    (ht : ∀ env, ∃ pl, eval (.Call (.Attribute a m apos) [] [] pos) env = (do
      let ov ← eval a env
      standAt apos.atName
      let (f, first) ← holding [ov] (getMethod ov m pl)
      callWith pos f first (backTo pos (starEach [] env)) (backToKw pos (keywordEach [] env)))) : SoundE I n N sc (.Call (.Attribute a m apos) [] [] pos) (.meth cl f A .nil) := by
  intro X W hc ρ S as σ H Q he hs g
  obtain ⟨fd, hfd⟩ := Option.isSome_iff_exists.mp hlt
  obtain ⟨hcl, hm, hni⟩ := hc.ws.me cl f m hp
  have F := hc.wf.fns f fd hfd
  obtain ⟨pl, ht⟩ := ht X.env
  refine (pe_methS0 (X := X) (pl := pl) (pe_wp (X := X) (e := a)) (hc.ws.cls cl hcl) hm F (hc.room.mono (by omega)) (hc.wf.bnd f fd hfd) (fun σ => passAt hc.tk σ) ht).wp ?_
  unfold ev at g
  refine sa.hand_ hc he hs g fun rv S1 v H1 k1 s1 r1 g1 => ?_
  split at g1
  · rename_i ho
    obtain ⟨aa, dx, fs, ds, e1, e2, e3, _⟩ := obj_at s1 r1 ho
    refine ⟨aa, dx, fs, e1, e2, lookup_out e3 hni, ?_⟩
    unfold evh at g1
    exact sp_of (rvs := [rv]) ⟨_, _, rfl, r1, by unfold vrels; rfl⟩ s1 (ResQ.back k1 g1)
  · exact g1.elim
/-- a new instance: __init__ at the new cell -/
theorem make_sp {cl f : Nat} {rvs : List RV} {vs : List V} (hi : I.T.init[cl]? = some f) (r : vrels X.K I.ct as H rvs vs) (s : SRel X.K I.ct as H S) (g : Good X.K I.ct W as (mkObj (I.g n) cl rvs S) H σ (ResQ X.K I.ct as H Q)) :
    ∀ x dx, H x = none → H dx = none → dx ≠ x → spM I X.K n f (.ref x :: vs) (upd (upd H dx (.own x)) x (.ins (I.ct.adr cl) dx [])) (fun v H2 => v = .non ∧ Q (.ref x) H2) (WE W σ) := by
  intro x dx hx hdx hne
  have hx1 : upd H dx (.own x) x = none := by rw [upd_ne (Ne.symm hne)]; exact hx
  have kk : Keep as H (upd (upd H dx (.own x)) x (.ins (I.ct.adr cl) dx [])) := (Keep.new hdx).tr (.new hx1)
  have nas : ∀ a ∈ as, upd (upd H dx (.own x)) x (.ins (I.ct.adr cl) dx []) a = H a := fun a ha => by
    rw [upd_ne (b := a) (a := x) (fun z => s.off hx (by subst z; exact ha)), upd_ne (b := a) (a := dx) (fun z => s.off hdx (by subst z; exact ha))]
  have s' : SRel X.K I.ct (as ++ [x]) (upd (upd H dx (.own x)) x (.ins (I.ct.adr cl) dx [])) (S ++ [.inst cl []]) := s.push hx kk nas ⟨dx, [], upd_same, rfl, rels.nil⟩
  have r' : vrels X.K I.ct (as ++ [x]) (upd (upd H dx (.own x)) x (.ins (I.ct.adr cl) dx [])) rvs vs := by
    clear g
    induction rvs generalizing vs with
    | nil => exact r
    | cons a b ih =>
      obtain ⟨v, q, e, r1, r2⟩ := r
      exact ⟨v, q, e, r1.mono kk (fresh_at hx) (List.prefix_append _ _), ih r2⟩
  have ek : (as ++ [x])[S.length]? = some x := by rw [← s.len]; simp
  refine ⟨.r S.length :: rvs, S ++ [.inst cl []], as ++ [x], ⟨_, _, rfl, ⟨x, ek, rfl⟩, r'⟩, s', ?_⟩
  unfold mkObj at g
  have hi' : (I.g n).init[cl]? = some f := hi
  rw [hi'] at g
  have g' : Good X.K I.ct W as (match callN I.T n f (.r S.length :: rvs) (S ++ [.inst cl []]) with
    | .ok (.d .non) S1 => (match S1[S.length]? with
      | some cell => .ok (.new cell) (S1.take S.length)
      | none => .fail)
    | .exc e fs S1 => .exc e fs (S1.take S.length)
    | _ => .fail) H σ (ResQ X.K I.ct as H Q) := g
  have tk : ∀ {H' : Hp} {S1 : Sto}, SRel X.K I.ct (as ++ [x]) H' S1 → SRel X.K I.ct as H' (S1.take S.length) := fun {H' S1} q => by
    have := q.take as.length
    rw [List.take_left] at this
    rw [← s.len]
    exact this
  split at g'
  · rename_i S1 hcall
    rw [hcall]
    split at g'
    · rename_i cell hcell
      intro v H' res
      obtain ⟨k2, s2, rv⟩ := res
      refine ⟨by have rv' : rel X.K I.ct (as ++ [x]) H' .non v := rv; unfold rel at rv'; exact rv', ?_⟩
      refine g' (.ref x) H' ⟨kk.trans k2 (fun a z => ?_), x, rfl, hx, ?_⟩
      · rcases List.mem_append.mp z with z | z
        · exact .inl z
        · exact .inr (by rw [List.mem_singleton.mp z]; exact hx)
      · have l1 : S1.length = S.length + 1 := by rw [← s2.len, ← s.len]; simp
        have e : S1 = S1.take S.length ++ [cell] := by
          refine List.ext_getElem? fun i => ?_
          rw [List.getElem?_append]
          simp only [List.length_take, List.getElem?_take]
          by_cases hi : i < S.length
          · rw [if_pos (by omega), if_pos hi]
          · rw [if_neg (by omega)]
            by_cases h2 : i = S.length
            · subst h2
              rw [hcell, show S.length - min S.length S1.length = 0 by omega]; rfl
            · rw [List.getElem?_eq_none (by omega), List.getElem?_eq_none (by simp; omega)]
        rw [← e]
        exact s2
    · exact g'.elim
  · rename_i e fs S1 hcall
    rw [hcall]
    intro cls d H' k2 s2 xr
    refine g' cls d H' (kk.trans k2 fun a z => ?_) (tk s2) (xr.sub fun a z => List.mem_append_left _ z)
    rcases List.mem_append.mp z with z | z
    · exact .inl z
    · exact .inr (by rw [List.mem_singleton.mp z]; exact hx)
  · exact g'.elim
theorem sE_mk {cl f : Nat} {x : Str} {e : Expr} {es : List Expr} {Es : MI.Es} (hcl : cl ∈ I.obs) (hi : I.T.init[cl]? = some f) (hx : I.cnm[cl]? = some x) (hlt : (I.T.fds[f]?).isSome = true) (sr : SoundA I n N sc (e :: es) Es) (hst : (e :: es).all (fun e => !isStar e) = true) (hg : sc.names.lookup x = some .globalImplicit) (hdb : (x == ("__debug__" : Str)) = false) :
    SoundE I n N sc (.Call (.Name x p) (e :: es) [] pos) (.mk cl Es) := by
  intro X W hc ρ S as σ H Q he hs g
  obtain ⟨fd, hfd⟩ := Option.isSome_iff_exists.mp hlt
  have hst' := hst
  rw [List.all_cons, Bool.and_eq_true] at hst'
  refine (pe_makeS (X := X) (hc.ws.mkc cl hcl f hi) (hc.wf.fns f fd hfd) hc.room (hc.gl hg) (hc.ws.cn cl x hx) (hc.wf.bnd f fd hfd) (fun σ => passAt hc.tk σ) (pa_wp (X := X) (es := e :: es)) hdb (star_plain (by simpa using hst'.1)) (back_none hst'.2)).wp ?_
  unfold ev at g
  refine sr X W hc ρ S as σ H _ he hs (g.bind.imp fun rvs S2 g2 vs H2 k2 s2 r2 => ?_)
  exact make_sp hi r2 s2 (ResQ.back k2 (Good.mono k2 g2))
theorem sE_mk0 {cl f : Nat} {x : Str} (hcl : cl ∈ I.obs) (hi : I.T.init[cl]? = some f) (hx : I.cnm[cl]? = some x) (hlt : (I.T.fds[f]?).isSome = true) (hg : sc.names.lookup x = some .globalImplicit) (hdb : (x == ("__debug__" : Str)) = false) :
    SoundE I n N sc (.Call (.Name x p) [] [] pos) (.mk cl .nil) := by
  intro X W hc ρ S as σ H Q he hs g
  obtain ⟨fd, hfd⟩ := Option.isSome_iff_exists.mp hlt
  refine (pe_makeS0 (X := X) (hc.ws.mkc cl hcl f hi) (hc.wf.fns f fd hfd) hc.room (hc.gl hg) (hc.ws.cn cl x hx) (hc.wf.bnd f fd hfd) (fun σ => passAt hc.tk σ) hdb).wp ?_
  unfold ev evh at g
  exact make_sp (rvs := []) (vs := []) hi (by unfold vrels; rfl) hs g
end
end MI
set_option linter.all false
set_option Elab.async false
set_option maxRecDepth 100000
set_option maxHeartbeats 1000000
namespace MI
open PySem PySem.Spec PyProof.Rows L2
section
variable {K : PySem.W.Frag} {ct : CT} {as as' : List Addr} {H H' : Hp} {S : Sto} {W : WX}
theorem cell_lst {m : Nat} {xs : List D} {v : V} (s : SRel K ct as H S) (r : vrel K ct as H (.r m) v) (h : S[m]? = some (.lst xs)) : ∃ l vs, v = .ref l ∧ as[m]? = some l ∧ H l = some (.lst vs) ∧ rels K ct as H xs vs := by
  obtain ⟨l, e1, e2⟩ := r
  obtain ⟨vs, h1, h2⟩ := s.cell m _ l h e1
  exact ⟨l, vs, e2, e1, h1, h2⟩
/-- the cell's list is another now -/
theorem cell_set {m : Nat} {xs ys : List D} {l : Addr} {ws : List V} (s : SRel K ct as H S) (e : as[m]? = some l) (r : rels K ct as H ys ws) :
    Keep as H (upd H l (.lst ws)) ∧ SRel K ct as (upd H l (.lst ws)) (S.set m (.lst ys)) := by
  have kk : Keep as H (upd H l (.lst ws)) := .at (List.mem_of_getElem? e)
  exact ⟨kk, s.put e (show crel K ct as _ (.lst ys) l from ⟨ws, upd_same, r.keep kk⟩)⟩
end
theorem bm_few {e : Expr} {env : Env} {cpos : Pos} (h : isStar e = false) : ((backTo cpos (starEach [e] env)).all (fun x => !x.1) && (backToKw cpos (keywordEach [] env)).all (fun x => x.1.isSome)
      && decide (([e] : List Expr).length + ([] : List Keyword).length + (if ([] : List Keyword).isEmpty then 0 else 1) < 30)) = true := by
  rw [star_plain h]
  rfl
section
variable {I : Info} {n : Nat} {N : List Str} {sc : Scope} {X : Cx} {W : WX} {ρ : Rho} {S : Sto} {as : List Addr} {σ : L2.St} {H : Hp} {Q : VK} {a b c tg elt iter : Expr} {A B C : E} {pos p p2 pos2 apos : Pos} {scope : Scope}
theorem appC_of {S : Sto} {m : Nat} {ys : List D} {rv : RV} {S' : Sto} (h : appC S m ys = .ok rv S') : ∃ xs, S[m]? = some (.lst xs) ∧ xs.length + ys.length ≤ lim ∧ rv = .d .non ∧ S' = S.set m (.lst (xs ++ ys)) := by
  unfold appC at h
  split at h
  · rename_i xs hx
    split at h
    · rename_i hl
      cases h
      exact ⟨xs, hx, hl, rfl, rfl⟩
    · cases h
  · cases h
theorem appC_noexc {S : Sto} {m : Nat} {ys : List D} {c fs S'} : appC S m ys ≠ .exc c fs S' := fun h => by
  unfold appC at h
  split at h
  · split at h <;> cases h
  · cases h
theorem good_app {K : PySem.W.Frag} {ct : CT} {m : Nat} {ys : List D} {q : RV → Sto → Prop} (g : Good K ct W as (appC S m ys) H σ q) : ∃ xs, S[m]? = some (.lst xs) ∧ xs.length + ys.length ≤ lim ∧ q (.d .non) (S.set m (.lst (xs ++ ys))) := by
  cases h : appC S m ys with
  | ok rv S' =>
    obtain ⟨xs, h1, h2, rfl, rfl⟩ := appC_of h
    rw [h] at g
    exact ⟨xs, h1, h2, g⟩
  | exc c fs S' => exact (appC_noexc h).elim
  | fail => rw [h] at g; exact g.elim
/-- what stands in cell m at the value -/
theorem tyV_list {K : PySem.W.Frag} {l : Addr} {vs : List V} (h : H l = some (.lst vs)) : tyV K "list" (.ref l) H := .inl ⟨rfl, vs, SqL.of h⟩
theorem tyV_cell {K : PySem.W.Frag} {ct : CT} {m : Nat} {v : V} (s : SRel K ct as H S) (r : vrel K ct as H (.r m) v) (h : isL S m = true) : tyV K "list" v H := by
  unfold isL at h
  split at h
  · rename_i xs hx
    obtain ⟨l, vs, rfl, _, h2, _⟩ := cell_lst s r hx
    exact tyV_list h2
  · cases h
theorem sE_app (sa : SoundE I n N sc a A) (sb : SoundE I n N sc b B) (hno : noCall a = true) (hst : isStar b = false) (hl : (apos.endLine == pos.line) = true) : SoundE I n N sc (.Call (.Attribute a "append" apos) [b] [] pos) (.app A B) := by
  intro X W hc ρ S as σ H Q he hs g
  refine (pe_bm (X := X) PySem.F.plainAttrs_list PySem.F.slot_list_append PySem.F.type_list_append mt_append (pe_wp (X := X) (e := a)) (pa_cons (pe_wp (X := X) (e := b)) pa_nil (star_plain hst)) (attr_plain hno) (bm_few hst) hl (star_plain hst) rfl).wp ?_
  unfold ev at g
  show wpE X a σ H fun x H1 => tyV X.K "list" x H1 ∧ wpE X b σ H1 fun y H2 => rAppend x [y] H2 Q
  refine sa.then_ hc he hs g fun rv S1 v H1 r g1 => ?_
  split at g1
  · rename_i m
    obtain ⟨k1, s1⟩ := r.store
    have r1 : vrel X.K I.ct as H1 (.r m) v := r.2.2
    split at g1
    · rename_i hL
      refine ⟨tyV_cell s1 r1 hL, ?_⟩
      refine sb.then_ hc (he.keep k1) s1 g1 fun rv2 S2 v2 H2 r2 g2 => ?_
      obtain ⟨d, hd, g3⟩ := Good.of g2.bind
      obtain ⟨k2, s2, r3⟩ := r2.data hd
      obtain ⟨xs, h1, h2, q⟩ := good_app g3
      obtain ⟨l, vs, rfl, e1, e2, e3⟩ := cell_lst s2 (r1.keep k2) h1
      obtain ⟨k3, s3⟩ := cell_set (xs := xs) s2 e1 (e3.append (rels.cons r3 rels.nil))
      refine ⟨l, vs, v2, rfl, rfl, e2, ?_, q _ _ (Res.ofD ((k1.tr k2).tr k3) s3 (by unfold rel; rfl))⟩
      rw [← e3.length, ← lim_eq]
      exact h2
    · exact g1.elim
  · exact g1.elim
theorem sE_ext (sa : SoundE I n N sc a A) (sb : SoundE I n N sc b B) (hno : noCall a = true) (hst : isStar b = false) (hl : (apos.endLine == pos.line) = true) : SoundE I n N sc (.Call (.Attribute a "extend" apos) [b] [] pos) (.ext A B) := by
  intro X W hc ρ S as σ H Q he hs g
  refine (pe_bm (X := X) PySem.F.plainAttrs_list PySem.F.slot_list_extend PySem.F.type_list_extend mt_extend (pe_wp (X := X) (e := a)) (pa_cons (pe_wp (X := X) (e := b)) pa_nil (star_plain hst)) (attr_plain hno) (bm_few hst) hl (star_plain hst) rfl).wp ?_
  unfold ev at g
  show wpE X a σ H fun x H1 => tyV X.K "list" x H1 ∧ wpE X b σ H1 fun y H2 => rExtend x [y] H2 Q
  refine sa.then_ hc he hs g fun rv S1 v H1 r g1 => ?_
  split at g1
  · rename_i m
    obtain ⟨k1, s1⟩ := r.store
    have r1 : vrel X.K I.ct as H1 (.r m) v := r.2.2
    split at g1
    · rename_i hL
      refine ⟨tyV_cell s1 r1 hL, ?_⟩
      refine sb.then_ hc (he.keep k1) s1 g1 fun rv2 S2 v2 H2 r2 g2 => ?_
      obtain ⟨d, hd, g3⟩ := Good.of g2.bind
      obtain ⟨k2, s2, r3⟩ := r2.data hd
      split at g3
      · rename_i ys
        obtain ⟨xs, h1, h2, q⟩ := good_app g3
        obtain ⟨l, vs, rfl, e1, e2, e3⟩ := cell_lst s2 (r1.keep k2) h1
        unfold rel at r3
        obtain ⟨bb, zs, rfl, e4, e5, e6⟩ := r3
        obtain ⟨k3, s3⟩ := cell_set (xs := xs) s2 e1 (e3.append e6)
        refine ⟨l, bb, vs, zs, rfl, rfl, e2, e5, ?_, q _ _ (Res.ofD ((k1.tr k2).tr k3) s3 (by unfold rel; rfl))⟩
        rw [← e3.length, ← e6.length, ← lim_eq]
        exact h2
      · exact g3.elim
    · exact g1.elim
  · exact g1.elim
theorem rels.dropLast {K : PySem.W.Frag} {ct : CT} {xs : List D} {vs : List V} (r : rels K ct as H xs vs) : rels K ct as H xs.dropLast vs.dropLast := by
  rw [List.dropLast_eq_take, List.dropLast_eq_take, r.length]
  exact r.take _
theorem sE_pop (sa : SoundE I n N sc a A) (hno : noCall a = true) (hl : (apos.endLine == pos.line) = true) : SoundE I n N sc (.Call (.Attribute a "pop" apos) [] [] pos) (.pop A) := by
  intro X W hc ρ S as σ H Q he hs g
  refine (pe_bm0 (X := X) PySem.F.plainAttrs_list PySem.F.slot_list_pop PySem.F.type_list_pop mt_pop (pe_wp (X := X) (e := a)) (attr_plain hno) hl).wp ?_
  unfold ev at g
  show wpE X a σ H fun x H1 => tyV X.K "list" x H1 ∧ rPop x [] H1 Q
  refine sa.then_ hc he hs g fun rv S1 v H1 r g1 => ?_
  split at g1
  · rename_i m
    obtain ⟨k1, s1⟩ := r.store
    have r1 : vrel X.K I.ct as H1 (.r m) v := r.2.2
    unfold popC at g1
    split at g1
    · rename_i xs hx
      obtain ⟨l, vs, rfl, e1, e2, e3⟩ := cell_lst s1 r1 hx
      dsimp only at g1
      split at g1
      · rename_i y hy
        split at g1
        · exact g1.elim
        · obtain ⟨k3, s3⟩ := cell_set (xs := xs) s1 e1 e3.dropLast
          obtain ⟨u, h1, h2⟩ := e3.get hy
          refine ⟨tyV_list e2, l, vs, u, rfl, rfl, e2, by rw [← e3.length]; exact h1, g1 _ _ (Res.ofD (k1.tr k3) s3 (h2.keep k3))⟩
      · exact g1.elim
    · exact g1.elim
  · exact g1.elim
theorem ixAt_seq {n : Nat} {i : Int} {j : Nat} (h : ixAt n i = some j) : seqIndex? i n = some j := by
  unfold ixAt at h
  unfold seqIndex?
  split at h
  · rename_i h0
    split at h
    · rename_i h1
      cases h
      simp [h0, h1]
      omega
    · cases h
  · rename_i h0
    split at h
    · rename_i h1
      cases h
      simp [h0]
      omega
    · cases h
theorem ixAt_small {n : Nat} {i : Int} {j : Nat} (h : ixAt n i = some j) (hn : n ≤ sizeLine) : -(2 ^ 63) ≤ i ∧ i < 2 ^ 63 := by
  have hz : sizeLine = 16777216 := lim_eq.symm
  unfold ixAt at h
  split at h
  · split at h
    · omega
    · cases h
  · split at h
    · omega
    · cases h
theorem wpE.sz {e : Expr} {σ : L2.St} (h : wpE X e σ H fun v H' => Sz H' → Q v H') : wpE X e σ H Q := h.size
theorem sE_popAt (sa : SoundE I n N sc a A) (sb : SoundE I n N sc b B) (hno : noCall a = true) (hst : isStar b = false) (hl : (apos.endLine == pos.line) = true) : SoundE I n N sc (.Call (.Attribute a "pop" apos) [b] [] pos) (.popAt A B) := by
  intro X W hc ρ S as σ H Q he hs g
  refine (pe_bm (X := X) PySem.F.plainAttrs_list PySem.F.slot_list_pop PySem.F.type_list_pop mt_popAt (pe_wp (X := X) (e := a)) (pa_cons (pe_wp (X := X) (e := b)) pa_nil (star_plain hst)) (attr_plain hno) (bm_few hst) hl (star_plain hst) rfl).wp ?_
  unfold ev at g
  show wpE X a σ H fun x H1 => tyV X.K "list" x H1 ∧ wpE X b σ H1 fun y H2 => rPopAt x [y] H2 Q
  refine sa.then_ hc he hs g fun rv S1 v H1 r g1 => ?_
  split at g1
  · rename_i m
    obtain ⟨k1, s1⟩ := r.store
    have r1 : vrel X.K I.ct as H1 (.r m) v := r.2.2
    split at g1
    · rename_i hL
      refine ⟨tyV_cell s1 r1 hL, wpE.size ?_⟩
      refine sb.then_ hc (he.keep k1) s1 g1 fun rv2 S2 v2 H2 r2 g2 hsz => ?_
      split at g2
      · rename_i i
        obtain ⟨k2, s2⟩ := r2.store
        have ei : v2 = .int i := vr_int r2.2.2
        unfold popC at g2
        split at g2
        · rename_i xs hx
          obtain ⟨l, vs, rfl, e1, e2, e3⟩ := cell_lst s2 (r1.keep k2) hx
          dsimp only at g2
          split at g2
          · rename_i j hj
            split at g2
            · rename_i y hy
              obtain ⟨k3, s3⟩ := cell_set (xs := xs) s2 e1 (e3.eraseIdx j)
              obtain ⟨u, h1, h2⟩ := e3.get hy
              obtain ⟨b1, b2⟩ := ixAt_small hj (by rw [e3.length]; exact hsz.1 _ _ e2)
              subst ei
              refine ⟨l, vs, i, j, u, rfl, rfl, e2, b1, b2, by rw [← e3.length]; exact ixAt_seq hj, h1, g2 _ _ (Res.ofD ((k1.tr k2).tr k3) s3 (h2.keep k3))⟩
            · exact g2.elim
          · exact g2.elim
        · exact g2.elim
      · exact g2.elim
    · exact g1.elim
  · exact g1.elim
/-! ### is True, is False -/
theorem sE_isB {k : Bool} {j : Nat} {p' : Pos} (sa : SoundE I n N sc a A) : SoundE I n N sc (.Compare a [.Is] [.Constant (.bool k) j p'] pos) (.isB A k) := by
  intro X W hc ρ S as σ H Q he hs g
  refine (pe_cmpR (X := X) op_isBl (pe_wp (X := X) (e := a)) pe_bl rfl).wp ?_
  unfold ev at g
  show wpE X a σ H fun x H1 => rIsB x (.bl k) H1 Q
  refine sa.then_ hc he hs g fun rv S1 v H1 r g1 => ?_
  obtain ⟨rv2, e, q⟩ := Good.of g1
  unfold RV.isTrue at e
  split at e
  · rename_i b
    cases e
    obtain ⟨k1, s1, r1⟩ := r.hand rfl
    refine ⟨b, k, vr_bl r1, rfl, ?_⟩
    refine q _ _ (Res.ofD k1 s1 ?_)
    rw [show (b == k) = decide (b = k) by cases b <;> cases k <;> rfl]
    exact rl_bl
  · cases e
theorem sE_notB {k : Bool} {j : Nat} {p' : Pos} (sa : SoundE I n N sc a A) : SoundE I n N sc (.Compare a [.IsNot] [.Constant (.bool k) j p'] pos) (.notB A k) := by
  intro X W hc ρ S as σ H Q he hs g
  refine (pe_cmpR (X := X) op_notBl (pe_wp (X := X) (e := a)) pe_bl rfl).wp ?_
  unfold ev at g
  show wpE X a σ H fun x H1 => rNotB x (.bl k) H1 Q
  refine sa.then_ hc he hs g fun rv S1 v H1 r g1 => ?_
  obtain ⟨rv2, e, q⟩ := Good.of g1
  unfold RV.isTrue at e
  split at e
  · rename_i b
    cases e
    obtain ⟨k1, s1, r1⟩ := r.hand rfl
    refine ⟨b, k, vr_bl r1, rfl, ?_⟩
    refine q _ _ (Res.ofD k1 s1 ?_)
    rw [show (!(b == k)) = !decide (b = k) by cases b <;> cases k <;> rfl]
    exact rl_bl
  · cases e
theorem sT_isB {k : Bool} {j : Nat} {p' : Pos} (sa : SoundE I n N sc a A) : SoundT I n N sc (.Compare a [.Is] [.Constant (.bool k) j p'] pos) (fun ρ S => tst (ev (I.g n) (.isB A k) ρ S)) := by
  intro X W hc ρ S as σ H Q he hs g
  refine (pt_cmpR (X := X) op_isBl (pe_wp (X := X) (e := a)) pe_bl rfl).wp ?_
  have g := good_tst g
  unfold ev at g
  show wpE X a σ H fun x H1 => rIsB x (.bl k) H1 fun u H2 => ∃ c, u = .bl c ∧ Q c H2
  refine sa.then_ hc he hs g fun rv S1 v H1 r g1 => ?_
  obtain ⟨rv2, e, q⟩ := Good.of g1
  unfold RV.isTrue at e
  split at e
  · rename_i b
    cases e
    obtain ⟨k1, s1, r1⟩ := r.hand rfl
    refine ⟨b, k, vr_bl r1, rfl, ?_⟩
    refine q _ _ (Res.ofD k1 s1 ?_)
    rw [show (b == k) = decide (b = k) by cases b <;> cases k <;> rfl]
    exact rl_bl
  · cases e
theorem sT_notB {k : Bool} {j : Nat} {p' : Pos} (sa : SoundE I n N sc a A) : SoundT I n N sc (.Compare a [.IsNot] [.Constant (.bool k) j p'] pos) (fun ρ S => tst (ev (I.g n) (.notB A k) ρ S)) := by
  intro X W hc ρ S as σ H Q he hs g
  refine (pt_cmpR (X := X) op_notBl (pe_wp (X := X) (e := a)) pe_bl rfl).wp ?_
  have g := good_tst g
  unfold ev at g
  show wpE X a σ H fun x H1 => rNotB x (.bl k) H1 fun u H2 => ∃ c, u = .bl c ∧ Q c H2
  refine sa.then_ hc he hs g fun rv S1 v H1 r g1 => ?_
  obtain ⟨rv2, e, q⟩ := Good.of g1
  unfold RV.isTrue at e
  split at e
  · rename_i b
    cases e
    obtain ⟨k1, s1, r1⟩ := r.hand rfl
    refine ⟨b, k, vr_bl r1, rfl, ?_⟩
    refine q _ _ (Res.ofD k1 s1 ?_)
    rw [show (!(b == k)) = !decide (b = k) by cases b <;> cases k <;> rfl]
    exact rl_bl
  · cases e
end
end MI
set_option linter.all false
set_option Elab.async false
set_option maxRecDepth 100000
set_option maxHeartbeats 1000000
namespace MI
open PySem PySem.Spec PyProof.Rows L2
/-! ### isinstance -/
/-- what type a datum has -/
def tagV (ct : CT) : D → Option Value
  | .non => some (.type "NoneType")
  | .bl _ => some (.type "bool")
  | .int _ => some (.type "int")
  | .str _ => some (.type "str")
  | .tup _ => some (.type "tuple")
  | .lst _ => some (.type "list")
  | .ro _ => some (.type "list")
  | .dic => some (.type "dict")
  | .obj c _ => some (.ref (ct.adr c))
  | .exc _ _ => none
section
variable {I : Info} {n : Nat} {N : List Str} {sc : Scope} {X : Cx} {W : WX} {ρ : Rho} {S : Sto} {as : List Addr} {σ : L2.St} {H : Hp} {Q : VK} {a b c tg elt iter : Expr} {A B C : E} {pos p p2 pos2 apos : Pos} {scope : Scope}
theorem tyx_of (ws : Ws I X.K X.mg) {d : D} {v : V} (ho : ∀ c xs, d = .obj c xs → c ∈ I.obs) (r : srel X.K I.ct as H d v) : ∃ t, tagV I.ct d = some t ∧ TyX X.K H v t := by
  cases d with
  | non => have r' : rel X.K I.ct as H .non v := r; unfold rel at r'; subst r'; exact ⟨_, rfl, .base .non⟩
  | bl b => have r' : rel X.K I.ct as H (.bl b) v := r; unfold rel at r'; subst r'; exact ⟨_, rfl, .base (.bl b)⟩
  | int i => have r' : rel X.K I.ct as H (.int i) v := r; unfold rel at r'; subst r'; exact ⟨_, rfl, .base (.int i)⟩
  | str x => have r' : rel X.K I.ct as H (.str x) v := r; unfold rel at r'; subst r'; exact ⟨_, rfl, .base (.str _)⟩
  | tup xs =>
    have r' : rel X.K I.ct as H (.tup xs) v := r
    unfold rel at r'
    obtain ⟨a, vs, rfl, t, _⟩ := r'
    rcases t with ⟨_, e⟩ | ⟨o, its, m, e1, e2, _⟩
    · exact ⟨_, rfl, .base (.tup e)⟩
    · exact ⟨_, rfl, .kTuple e1 e2⟩
  | lst xs =>
    obtain ⟨a, vs, rfl, e, _⟩ := r
    exact ⟨_, rfl, .base (.lst e)⟩
  | obj c xs =>
    have hc := ho c xs rfl
    obtain ⟨a, dx, fs, rfl, e, _⟩ := r
    obtain ⟨h1, h2, h3, h4⟩ := ws.ty c hc
    exact ⟨_, rfl, .base (.ins e (ws.cls c hc) h1 h2 h3 h4)⟩
  | exc c xs => have r' : rel X.K I.ct as H (.exc c xs) v := r; unfold rel at r'; exact r'.elim
  | dic =>
    have r' : rel X.K I.ct as H .dic v := r
    unfold rel at r'
    obtain ⟨a, rfl, _, e⟩ := r'
    exact ⟨_, rfl, .base (.dT e)⟩
  | ro xs =>
    have r' : rel X.K I.ct as H (.ro xs) v := r
    unfold rel at r'
    obtain ⟨a, vs, rfl, t, _⟩ := r'
    rcases t with ⟨_, e⟩ | ⟨_, o, e⟩ | ⟨o, its, m, e1, e2, _⟩
    · exact ⟨_, rfl, .base (.lst e)⟩
    · exact ⟨_, rfl, .base (.frz e)⟩
    · exact ⟨_, rfl, .kList e1 e2⟩
/-- a type's name in the text -/
def tyS : Ty → Option String
  | .int => some "int"
  | .bool => some "bool"
  | .str => some "str"
  | .list => some "list"
  | .tuple => some "tuple"
  | .dict => some "dict"
  | _ => none
def tyTab : List (Ty × String) := [(.int, "int"), (.bool, "bool"), (.str, "str"), (.list, "list"), (.tuple, "tuple"), (.dict, "dict")]
theorem tyTab_of {t : Ty} {s : String} (h : tyS t = some s) : (t, s) ∈ tyTab := by cases t <;> cases h <;> simp [tyTab]
theorem kit_bi (ws : Ws I X.K X.mg) {t : Ty} {s : String} (h : tyS t = some s) {d : D} {tv : Value} (e : tagV I.ct d = some tv) (ho : ∀ c xs, d = .obj c xs → c ∈ I.obs) (hro : ∀ xs, d ≠ .ro xs) : PySem.W.kitOne X.K tv (.type s) = some (isTy I.T.sub t d) := by
  cases d with
  | obj c xs =>
    cases e
    have := ws.kct c (ho c xs rfl) s (by cases t <;> cases h <;> decide)
    rw [this]
    cases t <;> cases h <;> rfl
  | exc c xs => cases e
  | ro xs => exact (hro xs rfl).elim
  | non => cases e; exact (kit_ty ((by decide +kernel : ∀ p ∈ tyTab, kitB "NoneType" p.2 = some (isTy (fun _ _ => true) p.1 .non)) (t, s) (tyTab_of h))).trans (by cases t <;> first | rfl | cases h)
  | bl b => cases e; exact (kit_ty ((by decide +kernel : ∀ p ∈ tyTab, kitB "bool" p.2 = some (isTy (fun _ _ => true) p.1 (.bl true))) (t, s) (tyTab_of h))).trans (by cases t <;> first | rfl | cases h)
  | int b => cases e; exact (kit_ty ((by decide +kernel : ∀ p ∈ tyTab, kitB "int" p.2 = some (isTy (fun _ _ => true) p.1 (.int 0))) (t, s) (tyTab_of h))).trans (by cases t <;> first | rfl | cases h)
  | str b => cases e; exact (kit_ty ((by decide +kernel : ∀ p ∈ tyTab, kitB "str" p.2 = some (isTy (fun _ _ => true) p.1 (.str []))) (t, s) (tyTab_of h))).trans (by cases t <;> first | rfl | cases h)
  | tup b => cases e; exact (kit_ty ((by decide +kernel : ∀ p ∈ tyTab, kitB "tuple" p.2 = some (isTy (fun _ _ => true) p.1 (.tup []))) (t, s) (tyTab_of h))).trans (by cases t <;> first | rfl | cases h)
  | lst b => cases e; exact (kit_ty ((by decide +kernel : ∀ p ∈ tyTab, kitB "list" p.2 = some (isTy (fun _ _ => true) p.1 (.lst []))) (t, s) (tyTab_of h))).trans (by cases t <;> first | rfl | cases h)
  | dic => cases e; exact (kit_ty ((by decide +kernel : ∀ p ∈ tyTab, kitB "dict" p.2 = some (isTy (fun _ _ => true) p.1 .dic)) (t, s) (tyTab_of h))).trans (by cases t <;> first | rfl | cases h)
theorem kit_cls (ws : Ws I X.K X.mg) {cl : Nat} (hcl : cl ∈ I.obs) {d : D} {tv : Value} (e : tagV I.ct d = some tv) (ho : ∀ c xs, d = .obj c xs → c ∈ I.obs) : PySem.W.kitOne X.K tv (.ref (I.ct.adr cl)) = some (isTy I.T.sub (.cls cl) d) := by
  cases d with
  | obj c xs =>
    cases e
    rw [ws.kcc c (ho c xs rfl) cl hcl]
    show some (c == cl) = some (cl == c)
    by_cases h : c = cl
    · subst h; rfl
    · rw [beq_eq_false_iff_ne.mpr h, beq_eq_false_iff_ne.mpr (Ne.symm h)]
  | exc c xs => cases e
  | ro xs => cases e; exact ws.ktc cl hcl _ (by decide)
  | non => cases e; exact ws.ktc cl hcl _ (by decide)
  | bl b => cases e; exact ws.ktc cl hcl _ (by decide)
  | int b => cases e; exact ws.ktc cl hcl _ (by decide)
  | str b => cases e; exact ws.ktc cl hcl _ (by decide)
  | tup b => cases e; exact ws.ktc cl hcl _ (by decide)
  | lst b => cases e; exact ws.ktc cl hcl _ (by decide)
  | dic => cases e; exact ws.ktc cl hcl _ (by decide)
/-- an isinstance call, by the answer -/
theorem isi_end {t : Ty} {RR : V → Hp → VK → Prop} (hc : Cn I n N sc X W) (sa : SoundE I n N sc a A) (he : EnvOk X.K I.ct as H ρ σ) (hs : SRel X.K I.ct as H S) (g : Good X.K I.ct W as (ev (I.g n) (.bi (.isT t I.obs) (.cons false A .nil)) ρ S) H σ (ResQ X.K I.ct as H Q))
    (h : ∀ (d : D) (v : V) (H1 : Hp) (tv : Value), tagV I.ct d = some tv → TyX X.K H1 v tv → (∀ H2, Keep as H1 H2 → (∀ a ∈ as, H2 a = H1 a) → TyX X.K H2 v tv) → (∀ c xs, d = .obj c xs → c ∈ I.obs) → (∀ xs, d ≠ .ro xs) → (∀ p, H1 p = none → p ∉ as) → (∀ H2, Keep as H1 H2 → (∀ a ∈ as, H2 a = H1 a) → Q (.bl (isTy I.T.sub t d)) H2) → RR v H1 Q) : wpE X a σ H fun v H1 => RR v H1 Q := by
  unfold ev R.seeN evh at g
  refine sa.hand_ hc he hs g.bind fun rv S1 v H1 k1 s1 r1 g1 => ?_
  unfold evh at g1
  rw [if_neg Bool.false_ne_true] at g1
  have g1 : Good X.K I.ct W as (R.of (([rv].mapM (RV.see S1)).bind (biD I.T.sub (.isT t I.obs))) S1) H σ (ResQ X.K I.ct as H Q) := g1
  obtain ⟨rv2, e, q⟩ := Good.of g1
  cases hv : rv.see S1 with
  | none =>
    simp only [List.mapM_cons, List.mapM_nil, hv] at e
    cases e
  | some d =>
    simp only [List.mapM_cons, List.mapM_nil, hv] at e
    have e' : (if objOk I.obs d then some (RV.d (.bl (isTy I.T.sub t d))) else none) = some rv2 := e
    split at e'
    · rename_i hob
      cases e'
      have ho : ∀ c xs, d = .obj c xs → c ∈ I.obs := fun c xs ed => by
        subst ed
        unfold objOk at hob
        simpa using hob
      have hro : ∀ xs, d ≠ .ro xs := fun xs ed => by
        subst ed
        cases hob
      obtain ⟨tv, h1, h2⟩ := tyx_of hc.ws ho (seen s1 r1 hv)
      refine h d v H1 tv h1 h2 (fun H2 k2 ha => ?_) ho hro (fun p hp => s1.off hp) fun H2 k2 ha => q _ _ (Res.ofD (k1.tr k2) (s1.grow k2 ha) rl_bl)
      obtain ⟨tv', h3, h4⟩ := tyx_of hc.ws ho (seen (s1.grow k2 ha) (r1.keep k2) hv)
      rw [h1] at h3
      cases h3
      exact h4
    · cases e'
theorem boot_isi : bootBuiltins ("isinstance" : Str) = some (.builtin "isinstance") := by decide +kernel
theorem boot_ty : ∀ s ∈ tyNames, bootBuiltins (Str.ofString s) = some (.type s) ∧ Str.ofString s ∈ biNames ∧ Str.ofString s ≠ "__name__" ∧ (Str.ofString s == ("__debug__" : Str)) = false := by
  intro s hs
  simp only [tyNames, List.mem_cons, List.mem_nil_iff, or_false] at hs
  rcases hs with rfl | rfl | rfl | rfl | rfl | rfl <;> exact ⟨by decide +kernel, by decide +kernel, by decide +kernel, by decide +kernel⟩
theorem tyS_mem {t : Ty} {s : String} (h : tyS t = some s) : s ∈ tyNames := by cases t <;> cases h <;> decide
theorem sE_isTb {t : Ty} {s : String} (sa : SoundE I n N sc a A) (hst : isStar a = false) (ht : tyS t = some s) (hg : sc.names.lookup ("isinstance" : Str) = some .globalImplicit) (hg2 : sc.names.lookup (Str.ofString s) = some .globalImplicit) :
    SoundE I n N sc (.Call (.Name "isinstance" p) [a, .Name (Str.ofString s) p2] [] pos) (.bi (.isT t I.obs) (.cons false A .nil)) := by
  intro X W hc ρ S as σ H Q he hs g
  obtain ⟨h1, h2, h3, h4⟩ := boot_ty s (tyS_mem ht)
  refine (pe_callB (X := X) call_isi (hc.gl hg) (hc.wf.bi _ (by decide +kernel)) boot_isi (pa_cons (pe_wp (X := X) (e := a)) (pa_cons (pe_bltn (v := .ty s) (hc.gl hg2) (hc.wf.bi _ h2) h1 rfl h3 h4) pa_nil rfl) (star_plain hst)) (by decide +kernel) (by decide +kernel) (star_plain hst) rfl).wp ?_
  refine isi_end (RR := fun x H1 Q => rIsi X.K [x, .ty s] H1 Q) hc sa he hs g fun d v H1 tv e ty ty2 ho hro off q => ?_
  exact ⟨v, .ty s, tv, .type s, _, rfl, .ty s, ty, kit_bi hc.ws ht e ho hro, q H1 .refl fun _ _ => rfl⟩
theorem sE_isTc {cl : Nat} {x : Str} (sa : SoundE I n N sc a A) (hst : isStar a = false) (hcl : cl ∈ I.obs) (hx : I.cnm[cl]? = some x) (hg : sc.names.lookup ("isinstance" : Str) = some .globalImplicit) (hg2 : sc.names.lookup x = some .globalImplicit) (hdb : (x == ("__debug__" : Str)) = false) :
    SoundE I n N sc (.Call (.Name "isinstance" p) [a, .Name x p2] [] pos) (.bi (.isT (.cls cl) I.obs) (.cons false A .nil)) := by
  intro X W hc ρ S as σ H Q he hs g
  refine (pe_callB (X := X) call_isi (hc.gl hg) (hc.wf.bi _ (by decide +kernel)) boot_isi (pa_cons (pe_wp (X := X) (e := a)) (pa_cons (pe_glob (v := .ref (I.ct.adr cl)) (hc.gl hg2) (hc.ws.cn cl x hx) rfl hdb) pa_nil rfl) (star_plain hst)) (by decide +kernel) (by decide +kernel) (star_plain hst) rfl).wp ?_
  refine isi_end (RR := fun x H1 Q => rIsi X.K [x, .ref (I.ct.adr cl)] H1 Q) hc sa he hs g fun d v H1 tv e ty ty2 ho hro off q => ?_
  exact ⟨v, .ref (I.ct.adr cl), tv, .ref (I.ct.adr cl), _, rfl, .own _, ty, kit_cls hc.ws hcl e ho, q H1 .refl fun _ _ => rfl⟩
/-- isinstance(x, (list, tuple)), either order -/
theorem sE_isTlt {s1 s2 : String} {es : List Expr} {kk : Nat} {p3 p4 : Pos} (sa : SoundE I n N sc a A) (hst : isStar a = false) (hss : (s1 = "list" ∧ s2 = "tuple") ∨ (s1 = "tuple" ∧ s2 = "list")) (hg : sc.names.lookup ("isinstance" : Str) = some .globalImplicit) (hg1 : sc.names.lookup (Str.ofString s1) = some .globalImplicit) (hg2 : sc.names.lookup (Str.ofString s2) = some .globalImplicit) :
    SoundE I n N sc (.Call (.Name "isinstance" p) [a, .Tuple [.Name (Str.ofString s1) p3, .Name (Str.ofString s2) p4] kk p2] [] pos) (.bi (.isT .lt I.obs) (.cons false A .nil)) := by
  intro X W hc ρ S as σ H Q he hs g
  have m1 : s1 ∈ tyNames := by rcases hss with ⟨rfl, rfl⟩ | ⟨rfl, rfl⟩ <;> decide
  have m2 : s2 ∈ tyNames := by rcases hss with ⟨rfl, rfl⟩ | ⟨rfl, rfl⟩ <;> decide
  obtain ⟨h1, h2, h3, h4⟩ := boot_ty s1 m1
  obtain ⟨h5, h6, h7, h8⟩ := boot_ty s2 m2
  refine (pe_callB (X := X) call_isiT (hc.gl hg) (hc.wf.bi _ (by decide +kernel)) boot_isi (pa_cons (pe_wp (X := X) (e := a)) (pa_cons (pe_tup (pa_cons (pe_bltn (v := .ty s1) (hc.gl hg1) (hc.wf.bi _ h2) h1 rfl h3 h4) (pa_cons (pe_bltn (v := .ty s2) (hc.gl hg2) (hc.wf.bi _ h6) h5 rfl h7 h8) pa_nil rfl) rfl)) pa_nil rfl) (star_plain hst)) (by decide +kernel) (by decide +kernel) (star_plain hst) rfl).wp ?_
  refine isi_end (RR := fun x H1 Q => ([V.ty s1, V.ty s2].length ≤ sizeLine ∧ ∀ p, H1 p = none → rIsiT X.K [x, .ref p] (upd H1 p (.tup [.ty s1, .ty s2])) Q)) hc sa he hs g fun d v H1 tv e ty ty2 ho hro off q => ?_
  refine ⟨by rw [← lim_eq]; show 2 ≤ lim; decide, fun tp hp => ?_⟩
  have kk : Keep as H1 (upd H1 tp (.tup [.ty s1, .ty s2])) := .new hp
  have na : ∀ a ∈ as, upd H1 tp (.tup [.ty s1, .ty s2]) a = H1 a := fun a ha => upd_ne fun z => off tp hp (z ▸ ha)
  refine ⟨v, tp, [.ty s1, .ty s2], tv, [.type s1, .type s2], _, rfl, upd_same, .cons (.ty s1) (.cons (.ty s2) .nil), ty2 _ kk na, ?_, q _ kk na⟩
  have ea : isTy I.T.sub .lt d = (isTy I.T.sub .list d || isTy I.T.sub .tuple d) := by cases d <;> rfl
  rw [ea]
  have e1 := kit_bi hc.ws (t := .list) (s := "list") rfl e ho hro
  have e2 := kit_bi hc.ws (t := .tuple) (s := "tuple") rfl e ho hro
  rcases hss with ⟨rfl, rfl⟩ | ⟨rfl, rfl⟩
  · exact kitAny_cons e1 (fun z => kitAny_cons e2 (fun z2 => by rw [z, z2]; exact kitAny_nil) (fun z2 => by rw [z, z2]; rfl)) (fun z => by rw [z]; rfl)
  · exact kitAny_cons e2 (fun z => kitAny_cons e1 (fun z2 => by rw [z, z2]; exact kitAny_nil) (fun z2 => by rw [z, z2]; rfl)) (fun z => by rw [z, Bool.or_true])
/-! ### list(range(n)) -/
theorem rels_map {K : PySem.W.Frag} {ct : CT} {α : Type} {f : α → D} {g : α → V} (h : ∀ x, rel K ct as H (f x) (g x)) : ∀ l : List α, rels K ct as H (l.map f) (l.map g)
  | [] => rels.nil
  | x :: l => rels.cons (h x) (rels_map h l)
theorem sE_lrange (sa : SoundE I n N sc a A) (hst : isStar a = false) (hg : sc.names.lookup ("list" : Str) = some .globalImplicit) (hg2 : sc.names.lookup ("range" : Str) = some .globalImplicit) :
    SoundE I n N sc (.Call (.Name "list" p) [.Call (.Name "range" p2) [a] [] pos2] [] pos) (.lrange A) := by
  intro X W hc ρ S as σ H Q he hs g
  refine (pe_listRg (X := X) hc.calm (hc.gl hg) (hc.wf.bi _ (by decide +kernel)) (prg_1 (hc.gl hg2) (hc.wf.bi _ (by decide +kernel)) (pe_wp (X := X) (e := a)) (star_plain hst)) rfl).wp ?_
  unfold ev at g
  show wpE X a σ H _
  refine sa.then_ hc he hs g fun rv S1 v H1 r g1 => ?_
  split at g1
  · rename_i i
    split at g1
    · rename_i hr
      obtain ⟨k, s⟩ := r.store
      have hr' := of_decide_eq_true hr
      refine ⟨i, vr_int r.2.2, ⟨by omega, by omega, by omega, by omega, by omega⟩, fun q hq => ?_⟩
      refine out_new s (ResQ.mono k g1) ?_ hq
      show rels X.K I.ct as H1 (rangeD 0 i.toNat) (rgV 0 i)
      unfold rangeD rgV
      rw [Int.sub_zero]
      exact rels_map (fun x => rl_int) _
    · exact g1.elim
  · exact g1.elim
end
end MI
set_option linter.all false
set_option Elab.async false
set_option maxRecDepth 100000
set_option maxHeartbeats 1000000
namespace MI
open PySem PySem.Spec PyProof.Rows L2
/-! ### statements -/
/-- what lies between two points of a body: cells came, the rest stayed -/
structure Ext (as : List Addr) (H : Hp) (as' : List Addr) (H' : Hp) : Prop where
  pre : as <+: as'
  fr : ∀ a ∈ as', a ∈ as ∨ H a = none
  k : Keep as H H'
theorem Ext.refl {as H} : Ext as H as H := ⟨List.prefix_refl _, fun _ h => .inl h, .refl⟩
theorem Ext.keep {as H H'} (k : Keep as H H') : Ext as H as H' := ⟨List.prefix_refl _, fun _ h => .inl h, k⟩
theorem Ext.tr {as H as1 H1 as2 H2} (e : Ext as H as1 H1) (f : Ext as1 H1 as2 H2) : Ext as H as2 H2 where
  pre := e.pre.trans f.pre
  fr := fun a h => by
    rcases f.fr a h with z | z
    · exact e.fr a z
    · by_cases m : a ∈ as
      · exact .inl m
      · exact .inr (e.k.free m z)
  k := e.k.trans f.k e.fr
def GoodX (K : PySem.W.Frag) (ct : CT) (W : WX) (as : List Addr) (H : Hp) (D : Ends) (m : MI.X) : Prop := match m with
  | .nx ρ' S' => ∀ as' σ' H', Ext as H as' H' → EnvOk K ct as' H' ρ' σ' → SRel K ct as' H' S' → D.nx σ' H'
  | .ret v S' => ∀ as' H1 u H', Ext as H as' H1 → Res K ct as' H1 v S' u H' → D.rt u H'
  | .exc c fs ρ' S' => ∀ as' σ' H' cls d, Ext as H as' H' → EnvOk K ct as' H' ρ' σ' → SRel K ct as' H' S' → xrel K ct as' H' c fs cls d → W cls d σ' H'
  | .fail => False
theorem GoodX.shift {K : PySem.W.Frag} {ct : CT} {W : WX} {as as1 : List Addr} {H H1 : Hp} {D : Ends} {m : MI.X} (e : Ext as H as1 H1) (g : GoodX K ct W as H D m) : GoodX K ct W as1 H1 D m := by
  cases m with
  | nx ρ S => exact fun as' σ' H' f => g as' σ' H' (e.tr f)
  | ret v S => exact fun as' H2 u H' f => g as' H2 u H' (e.tr f)
  | exc c fs ρ S => exact fun as' σ' H' cls d f => g as' σ' H' cls d (e.tr f)
  | fail => exact g
theorem GoodX.then_ {K : PySem.W.Frag} {ct : CT} {W : WX} {as : List Addr} {H : Hp} {D : Ends} {α : Type} {m : R α} {ρ : Rho} {σ : L2.St} {f : α → Sto → MI.X} (he : EnvOk K ct as H ρ σ) (g : GoodX K ct W as H D (m.then_ ρ f)) : Good K ct W as m H σ fun a S => GoodX K ct W as H D (f a S) := by
  cases m with
  | ok a S => exact g
  | exc c fs S => exact fun cls d H' k s x => g as σ H' cls d (.keep k) (he.keep k) s x
  | fail => exact g
/-- a def's body: what a context must have beside -/
structure Cs (I : Info) (n : Nat) (N : List Str) (sc : Scope) (X : Cx) (W : WX) : Prop where
  cn : Cn I n N sc X W
  fn : ∀ x, X.fn x = true
  own : PassesOwn (model X.prog X.w) X.A X.env X.xe
  stack : X.stack = X.env :: X.outer
  frame : X.env.frame = some X.env.locals
def SoundS (I : Info) (n : Nat) (N : List Str) (sc : Scope) (st : Stmt) (s : MI.S) : Prop := ∀ (X : Cx) (W : WX), Cs I n N sc X W → ∀ ρ S as σ H (D : Ends), EnvOk X.K I.ct as H ρ σ → SRel X.K I.ct as H S →
  GoodX X.K I.ct W as H D (ex (I.g n) s ρ S) → wpS X st D σ H
def SoundSs (I : Info) (n : Nat) (N : List Str) (sc : Scope) (st : List Stmt) (s : Ss) : Prop := ∀ (X : Cx) (W : WX), Cs I n N sc X W → ∀ ρ S as σ H (D : Ends), EnvOk X.K I.ct as H ρ σ → SRel X.K I.ct as H S →
  GoodX X.K I.ct W as H D (exs (I.g n) s ρ S) → wpSs X st D σ H
section
variable {I : Info} {n : Nat} {N : List Str} {sc : Scope} {X : Cx} {W : WX} {ρ : Rho} {S : Sto} {as : List Addr} {σ : L2.St} {H : Hp} {Q : VK} {D : Ends} {a b c tg elt iter e : Expr} {A B C : E} {pos p p2 pos2 apos : Pos} {scope : Scope} {st : Stmt} {sts sts2 : List Stmt} {s : MI.S} {ss ss2 : Ss}
theorem sSs_nil : SoundSs I n N sc [] .nil := by
  intro X W hc ρ S as σ H D he hs g
  exact (pss_nil (X := X)).wp (g as σ H .refl he hs)
theorem sSs_cons (h1 : SoundS I n N sc st s) (h2 : SoundSs I n N sc sts ss) : SoundSs I n N sc (st :: sts) (.cons s ss) := by
  intro X W hc ρ S as σ H D he hs g
  refine (pss_cons (ps_wp (X := X) (st := st)) (pss_wp (X := X) (st := sts))).wp ?_
  show wpS X st { D with nx := fun σ H => wpSs X sts D σ H } σ H
  refine h1 X W hc ρ S as σ H _ he hs ?_
  unfold exs at g
  cases hm : ex (I.g n) s ρ S with
  | nx ρ1 S1 =>
    rw [hm] at g
    exact fun as' σ' H' x he' hs' => h2 X W hc ρ1 S1 as' σ' H' D he' hs' (GoodX.shift x g)
  | ret v S1 => rw [hm] at g; exact g
  | exc c fs ρ1 S1 => rw [hm] at g; exact g
  | fail => rw [hm] at g; exact g
theorem sS_pass : SoundS I n N sc (.Pass pos) .pass := by
  intro X W hc ρ S as σ H D he hs g
  unfold ex at g
  exact (ps_pass (X := X)).wp (g as σ H .refl he hs)
theorem sS_ex (sa : SoundE I n N sc e A) (hlc : isLC e = false) : SoundS I n N sc (.Expr e pos) (.ex A) := by
  intro X W hc ρ S as σ H D he hs g
  unfold ex at g
  refine (ps_expr (X := X) (pe_wp (X := X) (e := e)) (swaps_plain hlc)).wp ?_
  refine sa X W hc.cn ρ S as σ H _ he hs ((GoodX.then_ he g).imp fun rv S1 g1 v H1 r => ?_)
  obtain ⟨k, s⟩ := r.store
  exact g1 as σ H1 (.keep k) (he.keep k) s
theorem sS_ret (sa : SoundE I n N sc e A) : SoundS I n N sc (.Return (some e) pos) (.ret A) := by
  intro X W hc ρ S as σ H D he hs g
  unfold ex at g
  refine (ps_ret (X := X) (pe_wp (X := X) (e := e))).wp ?_
  exact sa X W hc.cn ρ S as σ H _ he hs ((GoodX.then_ he g).imp fun rv S1 g1 v H1 r => g1 as H v H1 .refl r)
theorem sS_retN : SoundS I n N sc (.Return none pos) .retN := by
  intro X W hc ρ S as σ H D he hs g
  unfold ex at g
  exact (ps_retN (X := X)).wp (g as H .non H .refl (Res.ofD .refl hs (by unfold rel; rfl)))
theorem sS_ite (sa : SoundT I n N sc c (fun ρ S => tst (ev (I.g n) C ρ S))) (h1 : SoundSs I n N sc sts ss) (h2 : SoundSs I n N sc sts2 ss2) : SoundS I n N sc (.If c sts sts2 pos) (.ite C ss ss2) := by
  intro X W hc ρ S as σ H D he hs g
  unfold ex at g
  refine (ps_if (X := X) (pt_wp (X := X) (e := c)) (pss_wp (X := X) (st := sts)) (pss_wp (X := X) (st := sts2))).wp ?_
  refine sa X W hc.cn ρ S as σ H _ he hs ((GoodX.then_ he g).imp fun b S1 g1 H1 k s1 => ?_)
  cases b with
  | true => exact h1 X W hc ρ S1 as σ H1 D (he.keep k) s1 (GoodX.shift (.keep k) g1)
  | false => exact h2 X W hc ρ S1 as σ H1 D (he.keep k) s1 (GoodX.shift (.keep k) g1)
/-- a slot is stored -/
theorem set_ok {i : Nat} {box : Bool} {rv : RV} {v : V} {S1 : Sto} {H1 : Hp} {K : PySem.W.Frag} {ct : CT} (he : EnvOk K ct as H ρ σ) (r : Res K ct as H rv S1 v H1) {m : MI.X} (hm : setS i box rv ρ S1 = m) :
    (∃ ρ' S' as', m = .nx ρ' S' ∧ Ext as H as' H1 ∧ EnvOk K ct as' H1 ρ' (σ.set i (some v)) ∧ SRel K ct as' H1 S') ∨ m = .fail := by
  subst hm
  cases rv with
  | d d =>
    obtain ⟨k, s, r1⟩ := r
    exact .inl ⟨_, _, as, rfl, .keep k, (he.keep k).set r1, s⟩
  | r m =>
    obtain ⟨k, s, r1⟩ := r
    exact .inl ⟨_, _, as, rfl, .keep k, (he.keep k).set r1, s⟩
  | new c =>
    have r0 := r
    obtain ⟨k, aa, rfl, hn, s⟩ := r
    show (∃ ρ' S' as', (if box = true then MI.X.nx (ρ.set i (some (.r S1.length))) (S1 ++ [c]) else match c.freeze with
      | some d => .nx (ρ.set i (some (.d d))) S1
      | none => .fail) = .nx ρ' S' ∧ _) ∨ (if box = true then MI.X.nx (ρ.set i (some (.r S1.length))) (S1 ++ [c]) else match c.freeze with
      | some d => .nx (ρ.set i (some (.d d))) S1
      | none => .fail) = .fail
    split
    · have pf : as <+: as ++ [aa] := List.prefix_append _ _
      have el : as.length = S1.length := s.pop.len
      refine .inl ⟨_, _, as ++ [aa], rfl, ⟨pf, fresh_at hn, k⟩, (he.mono k (fresh_at hn) pf).set ⟨aa, by rw [← el]; simp, rfl⟩, s⟩
    · cases hf : c.freeze with
      | none => exact .inr rfl
      | some d =>
        obtain ⟨k1, s1, r1⟩ := r0.hand (rv' := .d d) (by show c.freeze.map RV.d = _; rw [hf]; rfl)
        exact .inl ⟨_, _, as, rfl, .keep k1, (he.keep k1).set r1, s1⟩
/-- a name that a def's body stores to -/
def locB (N : List Str) (sc : Scope) (i : Nat) (x : Str) : Bool := decide (N[i]? = some x) && (decide (sc.names.lookup x = some .local) || decide (sc.names.lookup x = some .cell))
theorem loc_of (hc : Cs I n N sc X W) {i : Nat} {x : Str} (h : locB N sc i x = true) : X.N.Nodup ∧ X.N[i]? = some x ∧ Loc X.env.scope x ∧ X.fn x = true := by
  unfold locB at h
  rw [Bool.and_eq_true, Bool.or_eq_true] at h
  refine ⟨by rw [hc.cn.hN]; exact hc.cn.nd, by rw [hc.cn.hN]; exact of_decide_eq_true h.1, ?_, hc.fn x⟩
  rw [hc.cn.hsc]
  rcases h.2 with z | z
  · exact .inl (of_decide_eq_true z)
  · exact .inr (of_decide_eq_true z)
theorem sS_set {i : Nat} {box : Bool} {x : Str} (sa : SoundE I n N sc e A) (hx : locB N sc i x = true) (hlc : isLC e = false) : SoundS I n N sc (.Assign [.Name x p] e pos) (.set i box A) := by
  intro X W hc ρ S as σ H D he hs g
  unfold ex at g
  obtain ⟨h1, h2, h3, h4⟩ := loc_of hc hx
  refine (ps_set (X := X) h1 h2 h3 (pe_wp (X := X) (e := e)) (swaps_plain hlc) (.inl h4)).wp ?_
  refine sa X W hc.cn ρ S as σ H _ he hs ((GoodX.then_ he g).imp fun rv S1 g1 v H1 r => ?_)
  rcases set_ok he r rfl with ⟨ρ', S', as', e1, e2, e3, e4⟩ | e1
  · rw [e1] at g1
    exact g1 as' _ H1 e2 e3 e4
  · rw [e1] at g1
    exact g1.elim
theorem pg_def {t : Tg} (hc : Cs I n N sc X W) (h : tgB N sc tg t = true) : PG X tg (tgG X.K t) :=
  pg_tg (scope := sc) hc.cn.hN hc.cn.nd hc.cn.calm (fun x _ => hc.fn x) (fun x h => by rw [hc.cn.hsc]; exact h) (fun x h => by rw [hc.cn.hsc]; exact h) h
theorem sS_for {t : Tg} {IT : MI.I} (si : SoundI I n N sc tg iter IT) (hb : SoundSs I n N sc sts ss) (ht : tgB N sc tg t = true) (hit : isSet iter = false) : SoundS I n N sc (.For tg iter sts [] pos) (.for_ t IT ss) := by
  intro X W hc ρ S as σ H D he hs g
  unfold ex at g
  refine (ps_for (X := X) hc.own hc.cn.calm (pi_wp (X := X) (tg := tg) (it := iter)) (pg_def hc ht) (pss_wp (X := X) (st := sts)) (fold_plain hit)).wp ?_
  refine si X W hc.cn ρ S as σ H _ he hs ((GoodX.then_ he g).imp fun s S1 g1 J H1 k1 s1 st0 stp => ?_)
  refine ⟨fun i m σ' H' => ∃ ρ' S' as', m = s.items.length - i ∧ i ≤ s.items.length ∧ Ext as H1 as' H' ∧ EnvOk X.K I.ct as' H' ρ' σ' ∧ SRel X.K I.ct as' H' S' ∧ GoodX X.K I.ct W as' H' D (forL (fun x ρ S => match bindT ρ t x with
      | some ρ1 => exs (I.g n) ss ρ1 S
      | none => .fail) s.still (s.items.drop i) ρ' S'), ⟨_, ρ, S1, as, rfl, Nat.zero_le _, .refl, he.keep k1, s1, GoodX.shift (.keep k1) g1⟩, fun i m σ' H' ⟨ρ', S', as', em, hi, x, he', hs', g'⟩ => ?_⟩
  have stp' := stp as' x.pre x.fr
  have kk : Keep as' H1 H' := fun a o n e => x.k a o (fun z => n (x.pre.subset z)) e
  by_cases hl : i < s.items.length
  · right
    rw [List.drop_eq_getElem_cons hl] at g'
    unfold forL at g'
    split at g'
    · rename_i hst
      refine ⟨stp'.go i H' S' kk hs' hst hl, fun σ2 H2 => ∃ ρ' S' as', Ext as H1 as' H2 ∧ EnvOk X.K I.ct as' H2 ρ' σ2 ∧ SRel X.K I.ct as' H2 S' ∧ GoodX X.K I.ct W as' H2 D (forL (fun x ρ S => match bindT ρ t x with
        | some ρ1 => exs (I.g n) ss ρ1 S
        | none => .fail) s.still (s.items.drop (i + 1)) ρ' S'), fun σ2 H2 ⟨ρ2, S2, as2, z1, z2, z3, z4⟩ => ⟨_, by subst em; exact Nat.sub_lt_sub_left hl (Nat.lt_succ_self i), ρ2, S2, as2, rfl, hl, z1, z2, z3, z4⟩, fun y H2 yl => ?_⟩
      obtain ⟨d, e1, k2, r2, q2⟩ := stp'.yld i H' S' y H2 kk hs' hst hl yl
      rw [List.getElem?_eq_getElem hl] at e1
      cases e1
      cases hbt : bindT ρ' t s.items[i] with
      | none => rw [hbt] at g'; exact g'.elim
      | some ρ1 =>
        rw [hbt] at g'
        refine tg_ok as' H2 ρ' ρ1 σ' _ y _ (he'.keep k2) q2 hbt fun σ3 he3 _ => ?_
        refine hb X W hc ρ1 S' as' σ3 H2 _ he3 r2 ?_
        have g2 := GoodX.shift (.keep k2) g'
        dsimp only at g2
        cases hm : exs (I.g n) ss ρ1 S' with
        | nx ρ4 S4 =>
          rw [hm] at g2
          exact fun as4 σ4 H4 x4 he4 hs4 => ⟨ρ4, S4, as4, (x.tr (.keep k2)).tr x4, he4, hs4, GoodX.shift x4 g2⟩
        | ret v S4 => rw [hm] at g2; exact g2
        | exc c fs ρ4 S4 => rw [hm] at g2; exact g2
        | fail => rw [hm] at g2; exact g2
    · exact g'.elim
  · left
    have e0 : i = s.items.length := by omega
    subst e0
    rw [List.drop_length] at g'
    unfold forL at g'
    split at g'
    · rename_i hst
      exact ⟨stp'.stop H' S' kk hs' hst, g' as' σ' H' .refl he' hs'⟩
    · exact g'.elim
theorem sS_while (sa : SoundT I n N sc c (fun ρ S => tst (ev (I.g n) C ρ S))) (hb : SoundSs I n N sc sts ss) : SoundS I n N sc (.While c sts [] pos) (.while_ C ss) := by
  intro X W hc ρ S as σ H D he hs g
  unfold ex at g
  refine (ps_while (X := X) hc.own (pt_wp (X := X) (e := c)) (pss_wp (X := X) (st := sts))).wp ?_
  refine ⟨fun m σ' H' => ∃ ρ' S' as', EnvOk X.K I.ct as' H' ρ' σ' ∧ SRel X.K I.ct as' H' S' ∧ GoodX X.K I.ct W as' H' D (whileL (fun ρ S => tst (ev (I.g n) C ρ S)) (fun ρ S => exs (I.g n) ss ρ S) m ρ' S'), ⟨_, ρ, S, as, he, hs, g⟩, fun m σ' H' ⟨ρ', S', as', he', hs', g'⟩ => ?_⟩
  cases m with
  | zero => unfold whileL at g'; exact g'.elim
  | succ m =>
    unfold whileL at g'
    refine sa X W hc.cn ρ' S' as' σ' H' _ he' hs' ((GoodX.then_ he' g').imp fun b S1 g1 H1 k s1 => ?_)
    cases b with
    | false => exact g1 as' σ' H1 (.keep k) (he'.keep k) s1
    | true =>
      refine ⟨fun σ2 H2 => ∃ ρ' S' as', EnvOk X.K I.ct as' H2 ρ' σ2 ∧ SRel X.K I.ct as' H2 S' ∧ GoodX X.K I.ct W as' H2 D (whileL (fun ρ S => tst (ev (I.g n) C ρ S)) (fun ρ S => exs (I.g n) ss ρ S) m ρ' S'), fun σ2 H2 z => ⟨m, Nat.lt_succ_self m, z⟩, ?_⟩
      refine hb X W hc ρ' S1 as' σ' H1 _ (he'.keep k) s1 ?_
      have g2 := GoodX.shift (.keep k) g1
      rw [if_pos rfl] at g2
      cases hm : exs (I.g n) ss ρ' S1 with
      | nx ρ4 S4 =>
        rw [hm] at g2
        exact fun as4 σ4 H4 x4 he4 hs4 => ⟨ρ4, S4, as4, he4, hs4, GoodX.shift x4 g2⟩
      | ret v S4 => rw [hm] at g2; exact g2
      | exc c fs ρ4 S4 => rw [hm] at g2; exact g2
      | fail => rw [hm] at g2; exact g2
end
end MI
set_option linter.all false
set_option Elab.async false
set_option maxRecDepth 100000
set_option maxHeartbeats 1000000
namespace MI
open PySem PySem.Spec PyProof.Rows L2
/-! ### stores of other forms -/
/-- an env with a scope -/
def env0 (sc : Scope) : Env := { scope := sc, locals := 0, globals := 0, cells := [] }
def pureOf {α : Type} : Sem α → Option α
  | .pure a => some a
  | _ => none
theorem pure_of {α : Type} {m : Sem α} {a : α} (h : pureOf m = some a) : m = pure a := by
  cases m <;> first | (cases h; rfl) | cases h
theorem swS_scope {ts : List Expr} {e : Expr} {env : Env} : swappedStores ts e env = swappedStores ts e (env0 env.scope) := rfl
theorem swW_scope {e : Expr} {t : Option Expr} {l : Nat} {env : Env} : swapsWith e t l env = swapsWith e t l (env0 env.scope) := rfl
section
variable {K : PySem.W.Frag} {ct : CT} {as : List Addr} {H : Hp}
def newDs (ds : List D) (k : Nat) (d : D) : List D := if k < ds.length then ds.set k d else ds ++ [d]
theorem putF_rel {f : Str} {y : V} {d : D} (ry : rel K ct as H d y) : ∀ {fs : List (Str × V)} {ns : List Str} {ds : List D} {k : Nat}, ns.Nodup → fs.map (·.1) = ns.take ds.length → rels K ct as H ds (fs.map (·.2)) → ns[k]? = some f → k ≤ ds.length →
    (L2.putF f y fs).map (·.1) = ns.take (newDs ds k d).length ∧ rels K ct as H (newDs ds k d) ((L2.putF f y fs).map (·.2)) ∧ (L2.putF f y fs).length ≤ fs.length + 1
  | [], ns, ds, k, nd, e, r, hk, hl => by
    have l := r.length
    have e0 : ds = [] := List.length_eq_zero_iff.mp (by simpa using l)
    subst e0
    have k0 : k = 0 := by simpa using hl
    subst k0
    cases ns with
    | nil => cases hk
    | cons n ns =>
      cases hk
      exact ⟨rfl, rels.cons ry rels.nil, Nat.le_refl _⟩
  | (g, x) :: fs, ns, ds, k, nd, e, r, hk, hl => by
    have l := r.length
    cases ds with
    | nil => simp at l
    | cons d0 ds =>
      cases ns with
      | nil => cases hk
      | cons n ns =>
        simp only [List.map_cons, List.length_cons, List.take_succ_cons, List.cons.injEq] at e
        unfold rels at r
        obtain ⟨v, r', e2, r1, r2⟩ := r
        simp only [List.map_cons, List.cons.injEq] at e2
        obtain ⟨e3, e4⟩ := e2
        subst e3
        rw [← e4] at r2
        rw [List.nodup_cons] at nd
        cases k with
        | zero =>
          have hgf : g = f := e.1.trans (by simpa using hk)
          subst hgf
          have ep : L2.putF g y ((g, x) :: fs) = (g, y) :: fs := by
            show (if g = g then (g, y) :: fs else _) = _
            rw [if_pos rfl]
          have en : newDs (d0 :: ds) 0 d = d :: ds := by
            unfold newDs
            rw [if_pos (by simp)]; rfl
          rw [ep, en]
          refine ⟨?_, rels.cons ry r2, by simp⟩
          simp only [List.map_cons, List.length_cons, List.take_succ_cons]
          rw [e.2, ← e.1]
        | succ k =>
          have hm : f ∈ ns := List.mem_of_getElem? hk
          have hne : ¬ g = f := by
            rintro rfl
            have : g = n := e.1
            subst this
            exact nd.1 hm
          have ep : L2.putF f y ((g, x) :: fs) = (g, x) :: L2.putF f y fs := by
            show (if g = f then (g, y) :: fs else (g, x) :: L2.putF f y fs) = _
            rw [if_neg hne]
          obtain ⟨h1, h2, h3⟩ := putF_rel ry nd.2 e.2 r2 hk (by simpa using hl)
          have en : newDs (d0 :: ds) (k + 1) d = d0 :: newDs ds k d := by
            unfold newDs
            simp only [List.length_cons, Nat.add_lt_add_iff_right]
            split <;> rfl
          rw [ep, en]
          refine ⟨?_, rels.cons r1 h2, by simpa using h3⟩
          simp only [List.map_cons, List.length_cons, List.take_succ_cons]
          rw [h1, show g = n from e.1]
end
section
variable {I : Info} {n : Nat} {N : List Str} {sc : Scope} {X : Cx} {W : WX} {ρ : Rho} {S : Sto} {as : List Addr} {σ : L2.St} {H : Hp} {Q : VK} {D : Ends} {a b c tg elt iter e o i : Expr} {A B C EO EI : E} {pos p p2 pos2 apos : Pos} {scope : Scope} {st : Stmt} {sts sts2 : List Stmt} {s : MI.S} {ss ss2 : Ss}
theorem good_data {rv : RV} {q : MI.D → Sto → MI.X} {ρ : Rho} {S1 : Sto} {K : PySem.W.Frag} {ct : CT} (g : GoodX K ct W as H D ((R.of rv.data S1).then_ ρ q)) : ∃ d, rv.data = some d ∧ GoodX K ct W as H D (q d S1) := by
  cases h : rv.data with
  | none => rw [h] at g; exact g.elim
  | some d => rw [h] at g; exact ⟨d, rfl, g⟩
theorem putF_of {c k : Nat} {x : RV} {d : MI.D} {S' : Sto} (h : MI.putF S c k x d = some S') : ∃ m xs, x = .r m ∧ S[m]? = some (.inst c xs) ∧ k ≤ xs.length ∧ S' = S.set m (.inst c (newDs xs k d)) := by
  unfold MI.putF at h
  split at h
  · split at h
    · rename_i m e xs hm
      split at h
      · rename_i he
        subst he
        split at h
        · rename_i hk
          cases h
          exact ⟨_, xs, rfl, hm, Nat.le_of_lt hk, by unfold newDs; rw [if_pos hk]⟩
        · split at h
          · rename_i hk hk2
            cases h
            exact ⟨_, xs, rfl, hm, Nat.le_of_eq hk2, by unfold newDs; rw [if_neg hk]⟩
          · cases h
      · cases h
    · cases h
  · cases h
theorem sS_setFld {cl k : Nat} {f : Str} (so : SoundE I n N sc o EO) (sa : SoundE I n N sc e A) (hcl : cl ∈ I.obs) (hf : (I.ct.nms cl)[k]? = some f) (hlc : isLC e = false) : SoundS I n N sc (.Assign [.Attribute o f p] e pos) (.setFld cl k EO A) := by
  intro X W hc ρ S as σ H D he hs g
  unfold ex at g
  refine (ps_fld (X := X) (pe_wp (X := X) (e := o)) (pe_wp (X := X) (e := e)) (swaps_plain hlc)).wp ?_
  show wpE X e σ H fun y H1 => wpE X o σ H1 fun x H2 => _
  refine sa X W hc.cn ρ S as σ H _ he hs ((GoodX.then_ he g).imp fun rv S1 g1 v H1 r => ?_)
  obtain ⟨d, hd, g2⟩ := good_data g1
  obtain ⟨k1, s1, r1⟩ := r.data hd
  refine so X W hc.cn ρ S1 as σ H1 _ (he.keep k1) s1 ((GoodX.then_ (he.keep k1) (GoodX.shift (.keep k1) g2)).imp fun rv2 S2 g3 v2 H2 r2 => ?_)
  obtain ⟨k2, s2⟩ := r2.store
  cases hp : MI.putF S2 cl k rv2 d with
  | none => rw [hp] at g3; exact g3.elim
  | some S3 =>
    rw [hp] at g3
    obtain ⟨m, xs, rfl, hm, hk, rfl⟩ := putF_of hp
    obtain ⟨aa, e1, e2⟩ := r2.2.2
    obtain ⟨dx, fs, h1, h2, h3⟩ := s2.cell m _ aa hm e1
    obtain ⟨nd, nl⟩ := hc.cn.ws.nnd cl
    obtain ⟨q1, q2, q3⟩ := putF_rel (r1.keep k2) nd h2 h3 hf hk
    have kk : Keep as H2 (upd H2 aa (.ins (I.ct.adr cl) dx (L2.putF f v fs))) := .at (List.mem_of_getElem? e1)
    have hfl : fs.length < 1000 := by
      have := congrArg List.length h2
      simp only [List.length_map, List.length_take] at this
      omega
    refine ⟨aa, _, dx, fs, e2, h1, hc.cn.ws.cls cl hcl, hc.cn.ws.nat cl hcl f (List.mem_of_getElem? hf), hfl, ?_⟩
    refine g3 as σ _ (.keep (k2.tr kk)) ((he.keep k1).keep (k2.tr kk)) (s2.put e1 (show crel X.K I.ct as _ (.inst cl (newDs xs k d)) aa from ⟨dx, _, upd_same, q1, q2.keep kk⟩))
/-- name = [.. for ..] -/
def swB (sc : Scope) (x : Str) (p cp : Pos) (scope : Scope) : Bool := (sc.names.lookup x == some .local) && (p.line == cp.line) && !(scope.names.any fun (n, k) => n == x && (k == .local || k == .cell))
theorem sw_val {gs : List Comprehension} {x : Str} {cp : Pos} {l : Nat} {env : Env} (hk : env.scope.kind = .function) : swapsWith (.ListComp elt gs scope cp) (some (.Name x p)) l env = pure (swB env.scope x p cp scope) := by
  have hb : env.blockKind = .function := by unfold Env.blockKind; rw [hk]; rfl
  unfold swapsWith swB
  simp only [hb, Expr.pos]
  rfl
theorem end_set {i : Nat} {box : Bool} {rv : RV} {v : V} {S1 : Sto} {H1 : Hp} (he : EnvOk X.K I.ct as H ρ σ) (r : Res X.K I.ct as H rv S1 v H1) (g1 : GoodX X.K I.ct W as H D (setS i box rv ρ S1)) : D.nx (σ.set i (some v)) H1 := by
  rcases set_ok he r rfl with ⟨ρ', S', as', e1, e2, e3, e4⟩ | e1
  · rw [e1] at g1
    exact g1 as' _ H1 e2 e3 e4
  · rw [e1] at g1
    exact g1.elim
theorem sS_setLc {i : Nat} {box : Bool} {x : Str} {cp : Pos} {ifs : List Expr} {O : MI.O} {IT : MI.I} {t : Tg} {own : List (Str × Nat)} (hx : locB N sc i x = true) (hk : sc.kind = .function) (si : SoundI I n N sc tg iter IT) (so : SoundO I n N (relS scope sc) ifs O) (se : SoundE I n N (relS scope sc) elt A) (hsl : slotsIn t (own.map (·.2)) = true)
    (hb : blkC N sc scope own = true) (ht : tgB N scope tg t = true) (hit : isSet iter = false) : SoundS I n N sc (.Assign [.Name x p] (.ListComp elt [⟨tg, iter, ifs, 0⟩] scope cp) pos) (.set i box (.comp A t IT O (own.map (·.2)))) := by
  intro X W hc ρ S as σ H D he hs g
  unfold ex at g
  obtain ⟨h1, h2, h3, h4⟩ := loc_of hc hx
  have hsw := sw_val (elt := elt) (gs := [⟨tg, iter, ifs, 0⟩]) (scope := scope) (p := p) (x := x) (cp := cp) (l := pos.line) (env := X.env) (by rw [hc.cn.hsc]; exact hk)
  have g0 := GoodX.then_ he g
  cases hw : swB X.env.scope x p cp scope with
  | true =>
    rw [hw] at hsw
    have hl : X.env.scope.names.lookup x = some .local := by
      unfold swB at hw
      rw [Bool.and_eq_true, Bool.and_eq_true] at hw
      exact eq_of_beq hw.1.1
    refine (ps_setLc (X := X) hc.cn.calm h1 h2 hl hsw (pi_wp (X := X) (tg := tg) (it := iter)) (blkOk_by (by rw [hc.cn.hN, hc.cn.hsc]; exact hb)) (fun s H C cl fp => pg_blk hc.cn ht) (tt := ttB X scope ifs) (te := teB X scope elt)
      (fun s H C cl fp => ⟨fun pins s' σ H Q I h => h s _ C cl fp pins s' I⟩) (fun s H C cl fp => ⟨fun pins s' σ H Q I h => h s _ C cl fp pins s' I⟩) (fold_plain hit)).wp ?_
    exact tLc_ok hc.cn si so se hsl he hs (g0.imp fun rv S1 g1 v H1 r => end_set he r g1)
  | false =>
    rw [hw] at hsw
    refine (ps_set (X := X) h1 h2 h3 (pe_wp (X := X) (e := .ListComp elt [⟨tg, iter, ifs, 0⟩] scope cp)) hsw (.inl h4)).wp ?_
    exact sE_comp si so se hsl hb ht hit X W hc.cn ρ S as σ H _ he hs (g0.imp fun rv S1 g1 v H1 r => end_set he r g1)
theorem sS_setLc2 {i : Nat} {box : Bool} {x : Str} {cp : Pos} {tg1 iter1 : Expr} {ifs1 : List Expr} {O : MI.O} {IT IT1 : MI.I} {t t1 : Tg} {own : List (Str × Nat)} {vs1 : List Nat} (hx : locB N sc i x = true) (hk : sc.kind = .function) (si : SoundI I n N sc tg iter IT) (si1 : SoundI I n N (relS scope sc) tg1 iter1 IT1) (so : SoundO I n N (relS scope sc) ifs1 O) (se : SoundE I n N (relS scope sc) elt A) (hsl : slotsIn t (own.map (·.2)) = true) (hsl1 : slotsIn t1 vs1 = true)
    (hv : (vs1.all fun i => (own.map (·.2)).contains i) = true) (hb : blkC N sc scope own = true) (ht : tgB N scope tg t = true) (ht1 : tgB N scope tg1 t1 = true) (hit : isSet iter = false) (hit1 : isSet iter1 = false) :
    SoundS I n N sc (.Assign [.Name x p] (.ListComp elt [⟨tg, iter, [], 0⟩, ⟨tg1, iter1, ifs1, 0⟩] scope cp) pos) (.set i box (.comp2 A t IT t1 IT1 O (own.map (·.2)) vs1)) := by
  intro X W hc ρ S as σ H D he hs g
  unfold ex at g
  obtain ⟨h1, h2, h3, h4⟩ := loc_of hc hx
  have hsw := sw_val (elt := elt) (gs := [⟨tg, iter, [], 0⟩, ⟨tg1, iter1, ifs1, 0⟩]) (scope := scope) (p := p) (x := x) (cp := cp) (l := pos.line) (env := X.env) (by rw [hc.cn.hsc]; exact hk)
  have g0 := GoodX.then_ he g
  cases hw : swB X.env.scope x p cp scope with
  | true =>
    rw [hw] at hsw
    have hl : X.env.scope.names.lookup x = some .local := by
      unfold swB at hw
      rw [Bool.and_eq_true, Bool.and_eq_true] at hw
      exact eq_of_beq hw.1.1
    refine (ps_setLc2 (X := X) hc.cn.calm h1 h2 hl hsw (pi_wp (X := X) (tg := tg) (it := iter)) (blkOk_by (by rw [hc.cn.hN, hc.cn.hsc]; exact hb)) (fun i hi => by have := List.all_eq_true.mp hv i hi; simpa using this) (fun s H C cl fp => pg_blk hc.cn ht) (tt := tYes) (fun s H C cl fp => pts_nil)
      (wi1 := tiB X scope tg1 iter1) (fun s H C cl fp => ⟨fun pins s' σ H Q I h => h s _ C cl fp pins s' I⟩) (fun s H C cl fp => pg_blk hc.cn ht1) (tt1 := ttB X scope ifs1) (fun s H C cl fp => ⟨fun pins s' σ H Q I h => h s _ C cl fp pins s' I⟩) (te := teB X scope elt) (fun s H C cl fp => ⟨fun pins s' σ H Q I h => h s _ C cl fp pins s' I⟩) (fold_plain hit) (fun env x => fold_plain hit1 x)).wp ?_
    exact tLc2_ok hc.cn si si1 so se hsl hsl1 he hs (g0.imp fun rv S1 g1 v H1 r => end_set he r g1)
  | false =>
    rw [hw] at hsw
    refine (ps_set (X := X) h1 h2 h3 (pe_wp (X := X) (e := .ListComp elt [⟨tg, iter, [], 0⟩, ⟨tg1, iter1, ifs1, 0⟩] scope cp)) hsw (.inl h4)).wp ?_
    exact sE_comp2 si si1 so se hsl hsl1 hv hb ht ht1 hit hit1 X W hc.cn ρ S as σ H _ he hs (g0.imp fun rv S1 g1 v H1 r => end_set he r g1)
end
end MI
set_option linter.all false
set_option Elab.async false
set_option maxRecDepth 100000
set_option maxHeartbeats 1000000
namespace MI
open PySem PySem.Spec PyProof.Rows L2
/-! ### several targets -/
def namesB (N : List Str) (sc : Scope) : List Nat → List Expr → Bool
  | [], [] => true
  | i :: is, .Name x _ :: es => locB N sc i x && namesB N sc is es
  | _, _ => false
def gNames : List Nat → TGs
  | [] => gNil
  | i :: is => gCons (gName i) (gNames is)
def isTup : Expr → Bool
  | .Tuple .. => true
  | _ => false
theorem sole_plain {t e : Expr} {l : Nat} {env : Env} (h : isLC e = false) : swapsWithSole [t] e l env = pure false := by
  unfold swapsWithSole
  exact swaps_plain h
theorem sole_tup {ts : List Expr} {k : Nat} {q : Pos} {e : Expr} {l : Nat} {env : Env} : swapsWithSole [.Tuple ts k q] e l env = pure false := by
  unfold swapsWithSole
  cases e <;> rfl
theorem swS_plain {e : Expr} {ts : List Expr} {env : Env} (h : isTup e = false) : swappedStores ts e env = pure none := by
  unfold swappedStores
  cases e <;> first | (cases h; done) | skip
  all_goals
    split
    · rename_i q
      split at q <;> first
        | (cases q; done)
        | (rename_i hh; cases hh)
    · rfl
section
variable {I : Info} {n : Nat} {N : List Str} {sc : Scope} {X : Cx} {W : WX} {ρ : Rho} {S : Sto} {as : List Addr} {σ : L2.St} {H : Hp} {Q : VK} {D : Ends} {a b c tg elt iter e o i o2 i2 : Expr} {A B C EO EI EO2 EI2 : E} {pos p p2 p3 pos2 apos : Pos} {scope : Scope} {st : Stmt} {sts sts2 : List Stmt} {s : MI.S} {ss ss2 : Ss}
theorem names_each {env : Env} : ∀ {is : List Nat} {es : List Expr}, namesB N sc is es = true → assignEach es env = es.map fun e => (false, assign e env)
  | [], [], _ => rfl
  | i :: is, .Name x q :: es, h => by
    unfold namesB at h
    rw [Bool.and_eq_true] at h
    show (false, assign (.Name x q) env) :: assignEach es env = _
    rw [names_each h.2]; rfl
theorem names_len : ∀ {is : List Nat} {es : List Expr}, namesB N sc is es = true → es.length = is.length
  | [], [], _ => rfl
  | i :: is, .Name x q :: es, h => by
    unfold namesB at h
    rw [Bool.and_eq_true] at h
    simp [names_len h.2]
theorem pgs_names (hc : Cs I n N sc X W) : ∀ {is : List Nat} {es : List Expr}, namesB N sc is es = true → PGs X es (gNames is)
  | [], [], _ => pgs_nil
  | i :: is, .Name x q :: es, h => by
    unfold namesB at h
    rw [Bool.and_eq_true] at h
    obtain ⟨h1, h2, h3, h4⟩ := loc_of hc h.1
    exact pgs_cons (pg_name h1 h2 h3 (.inl h4)) (pgs_names hc h.2) rfl
theorem no_star {es : List Expr} {env : Env} {is : List Nat} (h : namesB N sc is es = true) : (assignEach es env).findIdx? (·.1) = none := by
  rw [names_each h, List.findIdx?_eq_none_iff]
  intro x hx
  obtain ⟨e, _, rfl⟩ := List.mem_map.mp hx
  rfl
theorem PG.or {X : Cx} {e : Expr} {t u : TG} (h : PG X e t) (h' : PG X e u) : PG X e (fun v σ H Q => t v σ H Q ∨ u v σ H Q) :=
  ⟨fun pins s σ H v w Q I r z => z.elim (fun z => h.run pins s σ H v w Q I r z) fun z => h'.run pins s σ H v w Q I r z⟩
theorem gNames_ok {K : PySem.W.Frag} {ct : CT} {R1 : L2.St → Hp → Prop} : ∀ {is : List Nat} {ds : List MI.D} {vs : List V} {ρ ρ' : Rho} {σ : L2.St}, EnvOk K ct as H ρ σ → rels K ct as H ds vs → setMany is ds ρ = some ρ' → (∀ σ', EnvOk K ct as H ρ' σ' → R1 σ' H) → gNames is vs σ H R1
  | [], [], vs, ρ, ρ', σ, he, r, e, h => by
    unfold rels at r
    cases e
    exact ⟨r, h σ he⟩
  | i :: is, d :: ds, vs, ρ, ρ', σ, he, r, e, h => by
    unfold rels at r
    obtain ⟨v, r', rfl, r1, r2⟩ := r
    exact ⟨v, r', rfl, gNames_ok (he.set (rv := .d d) r1) r2 e h⟩
  | [], _ :: _, vs, ρ, ρ', σ, he, r, e, h => by cases e
  | _ :: _, [], vs, ρ, ρ', σ, he, r, e, h => by cases e
theorem setMany_len : ∀ {is : List Nat} {ds : List MI.D} {ρ ρ' : Rho}, setMany is ds ρ = some ρ' → ds.length = is.length
  | [], [], _, _, _ => rfl
  | i :: is, d :: ds, ρ, ρ', e => by
    simp only [List.length_cons]
    rw [setMany_len (show setMany is ds (ρ.set i (some (.d d))) = some ρ' from e)]
  | [], _ :: _, _, _, e => by cases e
  | _ :: _, [], _, _, e => by cases e
theorem sS_unp {is : List Nat} {es : List Expr} {kk : Nat} (sa : SoundE I n N sc e A) (hn : namesB N sc is es = true) (htp : isTup e = false) : SoundS I n N sc (.Assign [.Tuple es kk p] e pos) (.unp is A) := by
  intro X W hc ρ S as σ H D he hs g
  unfold ex at g
  have hl : (assignEach es X.env).length = is.length := by rw [names_each hn, List.length_map, names_len hn]
  refine (ps_asg (X := X) (pe_wp (X := X) (e := e)) (PG.or (pg_tup hc.cn.calm (pgs_names hc hn) hl (no_star hn)) (pg_lst hc.cn.calm (pgs_names hc hn) hl (no_star hn))) (sole_tup) (swS_plain htp) rfl).wp ?_
  refine sa X W hc.cn ρ S as σ H _ he hs ((GoodX.then_ he g).imp fun rv S1 g1 v H1 r => ?_)
  cases hd : rv.data with
  | none => rw [hd] at g1; exact g1.elim
  | some d =>
    rw [hd] at g1
    obtain ⟨k1, s1, r1⟩ := r.data hd
    cases hq : d.seq with
    | none =>
      have : (some d).bind MI.D.seq = none := hq
      rw [this] at g1; exact g1.elim
    | some ds =>
      have : (some d).bind MI.D.seq = some ds := hq
      rw [this] at g1
      dsimp only at g1
      cases hm : setMany is ds ρ with
      | none => rw [hm] at g1; exact g1.elim
      | some ρ' =>
        rw [hm] at g1
        have fin : ∀ vs, rels X.K I.ct as H1 ds vs → vs.length = is.length ∧ gNames is vs σ H1 D.nx := fun vs rr =>
          ⟨by rw [← rr.length, setMany_len hm], gNames_ok (he.keep k1) rr hm fun σ' he' => g1 as σ' H1 (.keep k1) he' s1⟩
        cases d <;> first | (cases hq; done) | skip
        · cases hq
          unfold rel at r1
          obtain ⟨aa, vs, rfl, t, q⟩ := r1
          exact .inl ⟨aa, vs, rfl, t.sq, (fin vs q).1, (fin vs q).2⟩
        · cases hq
          unfold rel at r1
          obtain ⟨aa, vs, rfl, _, t, q⟩ := r1
          exact .inr ⟨aa, vs, rfl, SqL.of t, (fin vs q).1, (fin vs q).2⟩
/-! ### a, b = x, y -/
/-- the two values, one behind the other -/
theorem par_vals {ia ib : Nat} {ba bb : Bool} {R1 : List V → Hp → Prop} (hc : Cs I n N sc X W) (sa : SoundE I n N sc a A) (sb : SoundE I n N sc b B) (he : EnvOk X.K I.ct as H ρ σ) (hs : SRel X.K I.ct as H S) (g : GoodX X.K I.ct W as H D (ex (I.g n) (.par ia ba ib bb A B) ρ S))
    (h : ∀ v w as' H', (∀ H2, Keep as' H' H2 → (∀ a ∈ as', H2 a = H' a) → D.nx ((σ.set ia (some v)).set ib (some w)) H2) → (∀ p, H' p = none → p ∉ as') → R1 [v, w] H') : tCons (wpE X a) (tCons (wpE X b) tNil) σ H R1 := by
  unfold ex at g
  show wpE X a σ H fun v H1 => wpE X b σ H1 fun w H2 => R1 [v, w] H2
  refine sa X W hc.cn ρ S as σ H _ he hs ((GoodX.then_ he g).imp fun rv S1 g1 v H1 r => ?_)
  rcases set_ok he r rfl with ⟨ρ1, S2, as1, e1, x1, he1, s1⟩ | e1
  · rw [e1] at g1
    dsimp only at g1
    have he0 : EnvOk X.K I.ct as1 H1 ρ σ := he.mono x1.k x1.fr x1.pre
    refine sb X W hc.cn ρ S2 as1 σ H1 _ he0 s1 ((GoodX.then_ he0 (GoodX.shift x1 g1)).imp fun rv2 S3 g2 w H2 r2 => ?_)
    rcases set_ok he1 r2 rfl with ⟨ρ2, S4, as2, e2, x2, he2, s2⟩ | e2
    · rw [e2] at g2
      exact h v w as2 H2 (fun H3 k3 ha => g2 as2 _ H3 (x2.tr (.keep k3)) (he2.keep k3) (s2.grow k3 ha)) fun p hp => s2.off hp
    · rw [e2] at g2
      exact g2.elim
  · rw [e1] at g1
    exact g1.elim
theorem sS_parS {ia ib : Nat} {ba bb : Bool} {x y : Str} {kk k2 : Nat} (sa : SoundE I n N sc a A) (sb : SoundE I n N sc b B) (hx : N[ia]? = some x) (hy : N[ib]? = some y) (hxl : sc.names.lookup x = some .local) (hyl : sc.names.lookup y = some .local) (hij : ia ≠ ib) (hst : isStar a = false) (hst2 : isStar b = false)
    (hw : pureOf (swappedStores [.Tuple [.Name x p, .Name y p2] kk p3] (.Tuple [a, b] k2 pos2) (env0 sc)) = some (some [x, y])) : SoundS I n N sc (.Assign [.Tuple [.Name x p, .Name y p2] kk p3] (.Tuple [a, b] k2 pos2) pos) (.par ia ba ib bb A B) := by
  intro X W hc ρ S as σ H D he hs g
  refine (ps_par (X := X) hc.cn.calm (by rw [hc.cn.hN]; exact hc.cn.nd) (by rw [hc.cn.hN]; exact hx) (by rw [hc.cn.hN]; exact hy) hij (by rw [hc.cn.hsc]; exact hxl) (by rw [hc.cn.hsc]; exact hyl)
    (pa_cons (pe_wp (X := X) (e := a)) (pa_cons (pe_wp (X := X) (e := b)) pa_nil (star_plain hst2)) (star_plain hst)) (by rw [swS_scope, hc.cn.hsc]; exact pure_of hw) rfl).wp ?_
  exact par_vals hc sa sb he hs g fun v w as' H' q _ => ⟨v, w, rfl, q H' .refl fun _ _ => rfl⟩
theorem sS_parT {ia ib : Nat} {ba bb : Bool} {x y : Str} {kk k2 : Nat} (sa : SoundE I n N sc a A) (sb : SoundE I n N sc b B) (hx : locB N sc ia x = true) (hy : locB N sc ib y = true) (hst : isStar a = false) (hst2 : isStar b = false)
    (hw : pureOf (swappedStores [.Tuple [.Name x p, .Name y p2] kk p3] (.Tuple [a, b] k2 pos2) (env0 sc)) = some none) : SoundS I n N sc (.Assign [.Tuple [.Name x p, .Name y p2] kk p3] (.Tuple [a, b] k2 pos2) pos) (.par ia ba ib bb A B) := by
  intro X W hc ρ S as σ H D he hs g
  obtain ⟨h1, h2, h3, h4⟩ := loc_of hc hx
  obtain ⟨g1, g2, g3, g4⟩ := loc_of hc hy
  refine (ps_asg (X := X) (pe_tup (pa_cons (pe_wp (X := X) (e := a)) (pa_cons (pe_wp (X := X) (e := b)) pa_nil (star_plain hst2)) (star_plain hst))) (pg_tup hc.cn.calm (pgs_cons (pg_name h1 h2 h3 (.inl h4)) (pgs_cons (pg_name g1 g2 g3 (.inl g4)) pgs_nil)))
    rfl (by rw [swS_scope, hc.cn.hsc]; exact pure_of hw) rfl).wp ?_
  show tCons (wpE X a) (tCons (wpE X b) tNil) σ H fun xs H1 => xs.length ≤ sizeLine ∧ ∀ p, H1 p = none → gTup X.K 2 (gCons (gName ia) (gCons (gName ib) gNil)) (.ref p) σ (upd H1 p (.tup xs)) D.nx
  refine par_vals hc sa sb he hs g fun v w as' H' q off => ⟨by rw [← lim_eq]; show 2 ≤ lim; decide, fun p hp => ?_⟩
  refine ⟨p, [v, w], rfl, SqT.of upd_same, rfl, v, [w], rfl, w, [], rfl, rfl, ?_⟩
  exact q _ (.new hp) fun a ha => upd_ne fun z => off p hp (z ▸ ha)
theorem sS_par3 {ia ib ic : Nat} {ba bb bc : Bool} {x y z : Str} {kk k2 : Nat} {p4 : Pos} (sa : SoundE I n N sc a A) (sb : SoundE I n N sc b B) (sd : SoundE I n N sc c C) (hx : N[ia]? = some x) (hy : N[ib]? = some y) (hz : N[ic]? = some z) (hxl : sc.names.lookup x = some .local) (hyl : sc.names.lookup y = some .local) (hzl : sc.names.lookup z = some .local) (hij : ia ≠ ib) (hik : ia ≠ ic) (hjk : ib ≠ ic)
    (hst : isStar a = false) (hst2 : isStar b = false) (hst3 : isStar c = false)
    (hw : pureOf (swappedStores [.Tuple [.Name x p, .Name y p2, .Name z p4] kk p3] (.Tuple [a, b, c] k2 pos2) (env0 sc)) = some (some [x, y, z])) : SoundS I n N sc (.Assign [.Tuple [.Name x p, .Name y p2, .Name z p4] kk p3] (.Tuple [a, b, c] k2 pos2) pos) (.par3 ia ba ib bb ic bc A B C) := by
  intro X W hc ρ S as σ H D he hs g
  refine (ps_par3 (X := X) hc.cn.calm (by rw [hc.cn.hN]; exact hc.cn.nd) (by rw [hc.cn.hN]; exact hx) (by rw [hc.cn.hN]; exact hy) (by rw [hc.cn.hN]; exact hz) hij hik hjk (by rw [hc.cn.hsc]; exact hxl) (by rw [hc.cn.hsc]; exact hyl) (by rw [hc.cn.hsc]; exact hzl)
    (pa_cons (pe_wp (X := X) (e := a)) (pa_cons (pe_wp (X := X) (e := b)) (pa_cons (pe_wp (X := X) (e := c)) pa_nil (star_plain hst3)) (star_plain hst2)) (star_plain hst)) (by rw [swS_scope, hc.cn.hsc]; exact pure_of hw) rfl).wp ?_
  unfold ex at g
  show wpE X a σ H fun v H1 => wpE X b σ H1 fun w H2 => wpE X c σ H2 fun u H3 => _
  refine sa X W hc.cn ρ S as σ H _ he hs ((GoodX.then_ he g).imp fun rv S1 g1 v H1 r => ?_)
  rcases set_ok he r rfl with ⟨ρ1, S2, as1, e1, x1, he1, s1⟩ | e1
  · rw [e1] at g1
    dsimp only at g1
    have he0 : EnvOk X.K I.ct as1 H1 ρ σ := he.mono x1.k x1.fr x1.pre
    refine sb X W hc.cn ρ S2 as1 σ H1 _ he0 s1 ((GoodX.then_ he0 (GoodX.shift x1 g1)).imp fun rv2 S3 g2 w H2 r2 => ?_)
    rcases set_ok he1 r2 rfl with ⟨ρ2, S4, as2, e2, x2, he2, s2⟩ | e2
    · rw [e2] at g2
      dsimp only at g2
      have he00 : EnvOk X.K I.ct as2 H2 ρ σ := he0.mono x2.k x2.fr x2.pre
      refine sd X W hc.cn ρ S4 as2 σ H2 _ he00 s2 ((GoodX.then_ he00 (GoodX.shift x2 g2)).imp fun rv3 S5 g3 u H3 r3 => ?_)
      rcases set_ok he2 r3 rfl with ⟨ρ3, S6, as3, e3, x3, he3, s3⟩ | e3
      · rw [e3] at g3
        exact ⟨v, w, u, rfl, g3 as3 _ H3 x3 he3 s3⟩
      · rw [e3] at g3
        exact g3.elim
    · rw [e2] at g2
      exact g2.elim
  · rw [e1] at g1
    exact g1.elim
/-! ### o[i] = e -/
theorem putC_lst {x y : RV} {d : MI.D} {S' : Sto} (h : putC S x y d = some S') : ∃ m xs k j, x = .r m ∧ y = .d (.int k) ∧ S[m]? = some (.lst xs) ∧ ixAt xs.length k = some j ∧ S' = S.set m (.lst (xs.set j d)) := by
  unfold putC at h
  split at h
  · rename_i m
    split at h
    · rename_i xs hx
      split at h
      · rename_i k
        obtain ⟨j, h1, h2⟩ := Option.map_eq_some_iff.mp h
        exact ⟨m, xs, k, j, rfl, rfl, hx, h1, h2.symm⟩
      · cases h
    · rename_i kvs hx
      split at h
      · cases h
      · cases h
    · cases h
  · cases h
/-- a dict is put into: later -/
def DictPut (I : Info) : Prop := True
theorem PSet.or {X : Cx} {t u : TSet} (h : PSet X t) (h' : PSet X u) : PSet X (fun o i v H Q => t o i v H Q ∨ u o i v H Q) := fun pins s σ H o i v ov iv w Q I r1 r2 r3 z => z.elim (fun z => h pins s σ H o i v ov iv w Q I r1 r2 r3 z) fun z => h' pins s σ H o i v ov iv w Q I r1 r2 r3 z
theorem pset_all (hc : Cs I n N sc X W) : PSet X (fun o i v H Q => rSetL o i v H Q ∨ rSetD o i v H Q) := PSet.or set_list (set_dict (by have := hc.cn.room.units; omega))
theorem put_ok {d : MI.D} {x y : RV} {vo vi v : V} {S' : Sto} {R1 : Hp → Prop} (hd : DictPut I) (hc : Cs I n N sc X W) (s : SRel X.K I.ct as H S) (ro : vrel X.K I.ct as H x vo) (ri : vrel X.K I.ct as H y vi) (rv : rel X.K I.ct as H d v) (h : putC S x y d = some S') (q : ∀ H', Keep as H H' → SRel X.K I.ct as H' S' → R1 H') :
    rSetL vo vi v H R1 ∨ rSetD vo vi v H R1 := by
  obtain ⟨m, xs, k, j, rfl, rfl, hm, hj, rfl⟩ := putC_lst h
  obtain ⟨l, vs, rfl, e1, e2, e3⟩ := cell_lst s ro hm
  obtain ⟨kk, s'⟩ := cell_set (xs := xs) s e1 (e3.set (i := j) rv)
  exact .inl ⟨l, vs, k, j, rfl, vr_int ri, e2, by rw [← e3.length]; exact hj, q _ kk s'⟩
theorem put_vrel {x y : RV} {d : MI.D} {S' : Sto} (h : putC S x y d = some S') : (∃ m, x = .r m) ∧ ∃ d, y = .d d := by
  obtain ⟨m, xs, k, j, rfl, rfl, hm, hj, rfl⟩ := putC_lst h
  exact ⟨⟨_, rfl⟩, _, rfl⟩
theorem asg_sub {env : Env} {v : Value} (h : isSlice i = false) : assign (.Subscript o i pos) env v = (do
      let ov ← holding [v] (eval o env)
      let iv ← holding [v, ov] (eval i env)
      standAt pos
      holding [v, ov, iv] (setItem ov iv v)
      release [v, ov, iv] []) := by
  cases i <;> first | rfl | cases h
theorem isR {x : RV} {m : Nat} {vo : V} {S1 : Sto} {H1 : Hp} {K : PySem.W.Frag} {ct : CT} (e : x = .r m) (r : Res K ct as H x S1 vo H1) : vrel K ct as H1 x vo := by subst e; exact r.2.2
theorem isDd {x : RV} {m : MI.D} {vo : V} {S1 : Sto} {H1 : Hp} {K : PySem.W.Frag} {ct : CT} (e : x = .d m) (r : Res K ct as H x S1 vo H1) : vrel K ct as H1 x vo := by subst e; exact r.2.2
theorem gsub_ok {d : MI.D} {v : V} {R1 : L2.St → Hp → Prop} {q : Sto → MI.X} (hd : DictPut I) (hc : Cs I n N sc X W) (so : SoundE I n N sc o EO) (si : SoundE I n N sc i EI) (he : EnvOk X.K I.ct as H ρ σ) (hs : SRel X.K I.ct as H S) (rv : rel X.K I.ct as H d v)
    (g : GoodX X.K I.ct W as H D ((ev (I.g n) EO ρ S).then_ ρ fun x S => (ev (I.g n) EI ρ S).then_ ρ fun y S => (match putC S x y d with
      | some S1 => q S1
      | none => .fail))) (h : ∀ H' S', Keep as H H' → SRel X.K I.ct as H' S' → GoodX X.K I.ct W as H' D (q S') → R1 σ H') :
    gSub (wpE X o) (wpE X i) (fun o i v H Q => rSetL o i v H Q ∨ rSetD o i v H Q) v σ H R1 := by
  show wpE X o σ H fun x H1 => wpE X i σ H1 fun y H2 => _
  refine so X W hc.cn ρ S as σ H _ he hs ((GoodX.then_ he g).imp fun x S1 g1 vo H1 r => ?_)
  obtain ⟨k1, s1⟩ := r.store
  refine si X W hc.cn ρ S1 as σ H1 _ (he.keep k1) s1 ((GoodX.then_ (he.keep k1) (GoodX.shift (.keep k1) g1)).imp fun y S2 g2 vi H2 r2 => ?_)
  obtain ⟨k2, s2⟩ := r2.store
  cases hp : putC S2 x y d with
  | none => rw [hp] at g2; exact g2.elim
  | some S3 =>
    rw [hp] at g2
    obtain ⟨⟨m, em⟩, dd, ed⟩ := put_vrel hp
    exact put_ok (R1 := fun H3 => R1 σ H3) hd hc s2 ((isR em r).keep k2) (isDd ed r2) ((rv.keep k1).keep k2) hp fun H' k3 s3 => h H' S3 ((k1.tr k2).tr k3) s3 (GoodX.shift (.keep (k2.tr k3)) g2)
theorem sS_setItem (hd : DictPut I) (so : SoundE I n N sc o EO) (si : SoundE I n N sc i EI) (sa : SoundE I n N sc e A) (hlc : isLC e = false) (htp : isTup e = false) (hsl : isSlice i = false) : SoundS I n N sc (.Assign [.Subscript o i p] e pos) (.setItem EO EI A) := by
  intro X W hc ρ S as σ H D he hs g
  unfold ex at g
  refine (ps_asg (X := X) (pe_wp (X := X) (e := e)) (pg_sub (pe_wp (X := X) (e := o)) (pe_wp (X := X) (e := i)) (pset_all hc) (fun v => asg_sub hsl)) (sole_plain hlc) (swS_plain htp) rfl).wp ?_
  refine sa X W hc.cn ρ S as σ H _ he hs ((GoodX.then_ he g).imp fun rv S1 g1 v H1 r => ?_)
  obtain ⟨d, hdd, g2⟩ := good_data g1
  obtain ⟨k1, s1, r1⟩ := r.data hdd
  exact gsub_ok (q := fun S1 => .nx ρ S1) hd hc so si (he.keep k1) s1 r1 (GoodX.shift (.keep k1) g2) fun H' S' k2 s2 g3 => g3 as σ H' .refl ((he.keep k1).keep k2) s2
/-- o[i], o2[i2] = a, b -/
theorem sS_parItem {kk k2 : Nat} (hd : DictPut I) (so : SoundE I n N sc o EO) (si : SoundE I n N sc i EI) (so2 : SoundE I n N sc o2 EO2) (si2 : SoundE I n N sc i2 EI2) (sa : SoundE I n N sc a A) (sb : SoundE I n N sc b B) (hst : isStar a = false) (hst2 : isStar b = false) (hsl : isSlice i = false) (hsl2 : isSlice i2 = false)
    (hw : pureOf (swappedStores [.Tuple [.Subscript o i p, .Subscript o2 i2 p2] kk p3] (.Tuple [a, b] k2 pos2) (env0 sc)) = some none) : SoundS I n N sc (.Assign [.Tuple [.Subscript o i p, .Subscript o2 i2 p2] kk p3] (.Tuple [a, b] k2 pos2) pos) (.parItem EO EI EO2 EI2 A B) := by
  intro X W hc ρ S as σ H D he hs g
  unfold ex at g
  refine (ps_asg (X := X) (pe_tup (pa_cons (pe_wp (X := X) (e := a)) (pa_cons (pe_wp (X := X) (e := b)) pa_nil (star_plain hst2)) (star_plain hst))) (pg_tup hc.cn.calm (pgs_cons (pg_sub (pe_wp (X := X) (e := o)) (pe_wp (X := X) (e := i)) (pset_all hc) (fun v => asg_sub hsl)) (pgs_cons (pg_sub (pe_wp (X := X) (e := o2)) (pe_wp (X := X) (e := i2)) (pset_all hc) (fun v => asg_sub hsl2)) pgs_nil)))
    rfl (by rw [swS_scope, hc.cn.hsc]; exact pure_of hw) rfl).wp ?_
  show wpE X a σ H fun v H1 => wpE X b σ H1 fun w H2 => _
  refine sa X W hc.cn ρ S as σ H _ he hs ((GoodX.then_ he g).imp fun rv S1 g1 v H1 r => ?_)
  obtain ⟨d, hdd, g2⟩ := good_data g1
  obtain ⟨k1, s1, r1⟩ := r.data hdd
  refine sb X W hc.cn ρ S1 as σ H1 _ (he.keep k1) s1 ((GoodX.then_ (he.keep k1) (GoodX.shift (.keep k1) g2)).imp fun rv2 S2 g3 w H2 r2 => ?_)
  obtain ⟨d2, hdd2, g4⟩ := good_data g3
  obtain ⟨k2', s2, r3⟩ := r2.data hdd2
  refine ⟨by rw [← lim_eq]; show 2 ≤ lim; decide, fun pp hp => ?_⟩
  have kn : Keep as H2 (upd H2 pp (.tup [v, w])) := .new hp
  have s3 := s2.fresh (o := .tup [v, w]) hp
  refine ⟨pp, [v, w], rfl, SqT.of upd_same, rfl, v, [w], rfl, ?_⟩
  have he2 := ((he.keep k1).keep k2').keep kn
  refine gsub_ok (q := fun S => (ev (I.g n) EO2 ρ S).then_ ρ fun x S => (ev (I.g n) EI2 ρ S).then_ ρ fun y S => (match putC S x y d2 with
          | some S1 => .nx ρ S1
          | none => .fail)) hd hc so si he2 s3 ((r1.keep k2').keep kn) (GoodX.shift (.keep (k2'.tr kn)) g4) fun H' S' k3 s4 g5 => ?_
  refine ⟨w, [], rfl, ?_⟩
  exact gsub_ok (q := fun S1 => .nx ρ S1) hd hc so2 si2 (he2.keep k3) s4 ((r3.keep kn).keep k3) g5 fun H5 S5 k5 s5 g6 => ⟨rfl, g6 as σ H5 .refl ((he2.keep k3).keep k5) s5⟩
end
end MI
set_option linter.all false
set_option Elab.async false
set_option maxRecDepth 100000
set_option maxHeartbeats 1000000
namespace MI
open PySem PySem.Spec PyProof.Rows L2
/-! ### a def keeps what the mirror says -/
section
variable {K : PySem.W.Frag} {ct : CT} {as as' : List Addr} {H H' : Hp} {S S1 : Sto}
theorem vrels_len : ∀ {rvs : List RV} {vs : List V}, vrels K ct as H rvs vs → rvs.length = vs.length
  | [], _, r => by rw [show _ = [] from r]; rfl
  | x :: xs, vs, r => by
    obtain ⟨v, q, rfl, _, r2⟩ := r
    simp [vrels_len r2]
theorem vrels_get : ∀ {rvs : List RV} {vs : List V} {i : Nat} {rv : RV}, vrels K ct as H rvs vs → rvs[i]? = some rv → ∃ v, vs[i]? = some v ∧ vrel K ct as H rv v
  | [], _, _, _, _, e => by simp at e
  | x :: xs, vs, i, rv, r, e => by
    obtain ⟨v, q, rfl, r1, r2⟩ := r
    cases i with
    | zero => simp at e; subst e; exact ⟨v, rfl, r1⟩
    | succ i => simpa using vrels_get r2 (by simpa using e)
/-- what stands in the slots at the start -/
theorem env_start {rvs : List RV} {vs : List V} {N : List Str} {m : Nat} (r : vrels K ct as H rvs vs) (hm : m + rvs.length = N.length) : EnvOk K ct as H (rvs.map some ++ List.replicate m none) (L2.start N vs) := by
  have l := vrels_len r
  refine ⟨by unfold L2.start; simp [l]; omega, fun i rv e => ?_⟩
  rw [List.getElem?_append] at e
  split at e
  · rename_i hi
    rw [List.getElem?_map] at e
    cases h : rvs[i]? with
    | none => rw [h] at e; cases e
    | some x =>
      rw [h] at e
      cases e
      obtain ⟨v, h1, h2⟩ := vrels_get r h
      refine ⟨v, ?_, h2⟩
      unfold L2.start
      rw [List.getElem?_append_left (by simpa [← l] using hi), List.getElem?_map, h1]
      rfl
  · rw [List.getElem?_replicate] at e
    split at e <;> cases e
/-- the cells of the caller's, and one more -/
theorem SRel.pick {p : Addr} {c : Cell} {bs : List Addr} {T : Sto} (r : SRel K ct bs H T) (pre : as <+: bs) (hk : as.length = S.length) (hn : p ∉ as) (hp : p ∈ bs) (hc : crel K ct bs H c p) : SRel K ct (as ++ [p]) H (T.take S.length ++ [c]) := by
  have sub : ∀ a ∈ as ++ [p], a ∈ bs := fun a z => by
    rcases List.mem_append.mp z with z | z
    · exact pre.subset z
    · rw [List.mem_singleton.mp z]; exact hp
  have lT : S.length ≤ T.length := by rw [← r.len, ← hk]; exact pre.length_le
  refine ⟨?_, by simp [hk]; omega, fun i d a h1 h2 => ?_⟩
  · rw [List.nodup_append]
    exact ⟨r.nd.sublist pre.sublist, by simp, fun x hx y hy e => hn (by rw [List.mem_singleton] at hy; rw [← hy, ← e]; exact hx)⟩
  · by_cases hi : i < as.length
    · rw [List.getElem?_append_left hi] at h2
      rw [List.getElem?_append_left (by rw [List.length_take]; omega), List.getElem?_take, if_pos (by omega)] at h1
      obtain ⟨t, rfl⟩ := pre
      exact (r.cell i d a h1 (by rw [List.getElem?_append_left hi]; exact h2)).sub sub
    · have e : i = as.length := by
        have := (List.getElem?_eq_some_iff.mp h2).1
        simp at this; omega
      subst e
      rw [List.getElem?_append_right (Nat.le_refl _)] at h2
      rw [List.getElem?_append_right (by rw [List.length_take]; omega), List.length_take, hk, Nat.min_eq_left lT] at h1
      simp at h1 h2
      rw [← h1, ← h2]
      exact hc.sub sub
theorem SRel.cut {bs : List Addr} {T : Sto} (r : SRel K ct bs H T) (pre : as <+: bs) (hk : as.length = S.length) : SRel K ct as H (T.take S.length) := by
  have h := r.take as.length
  obtain ⟨t, rfl⟩ := pre
  rw [List.take_left, hk] at h
  exact h
/-- a def's end -/
theorem fin_ok {Q : VK} {v : RV} {H1 : Hp} {u : V} (hs : SRel K ct as H S) (x : Ext as H as' H1) (r : Res K ct as' H1 v S1 u H') {W : WX} {σ : L2.St} (g : match fin S.length v S1 with
    | .ok rv S' => ResQ K ct as H Q rv S'
    | .exc c fs S' => XOut K ct as H W σ c fs S'
    | .fail => False) : Q u H' := by
  have hk := hs.len
  have kk : Keep as H H' := x.k.trans r.1 x.fr
  have sub : ∀ a ∈ as, a ∈ as' := fun a z => x.pre.subset z
  cases v with
  | d d =>
    obtain ⟨k, s, rr⟩ := r
    exact g u H' ⟨kk, s.cut x.pre hk, rel.sub sub rr⟩
  | new c =>
    obtain ⟨k, a, rfl, hn, s⟩ := r
    have na : a ∉ as := fun z => s.last.1 (sub a z)
    refine g (.ref a) H' ⟨kk, a, rfl, x.k.free na hn, ?_⟩
    have q := s.pick (S := S) (as := as) (p := a) (c := c) (x.pre.trans (List.prefix_append _ _)) hk na (by simp) s.last.2
    have l1 : S.length ≤ S1.length := by rw [← hk, ← s.pop.len]; exact x.pre.length_le
    rw [List.take_append_of_le_length l1] at q
    exact q
  | r m =>
    obtain ⟨k, s, a, e1, rfl⟩ := r
    unfold fin at g
    dsimp only at g
    by_cases hm : m < S.length
    · rw [if_pos hm] at g
      refine g (.ref a) H' ⟨kk, s.cut x.pre hk, a, ?_, rfl⟩
      obtain ⟨t, rfl⟩ := x.pre
      rw [List.getElem?_append_left (by omega)] at e1
      exact e1
    · rw [if_neg hm] at g
      cases hc : S1[m]? with
      | none => rw [hc] at g; exact g.elim
      | some c =>
        rw [hc] at g
        have ma := List.mem_of_getElem? e1
        have na : a ∉ as := fun z => by
          obtain ⟨j, hj⟩ := List.getElem?_of_mem z
          have lj := (List.getElem?_eq_some_iff.mp hj).1
          have hj' : as'[j]? = some a := by
            obtain ⟨t, rfl⟩ := x.pre
            rw [List.getElem?_append_left lj]; exact hj
          obtain ⟨l2, e2⟩ := List.getElem?_eq_some_iff.mp hj'
          obtain ⟨l3, e3⟩ := List.getElem?_eq_some_iff.mp e1
          have := (List.getElem_inj s.nd).mp (e2.trans e3.symm)
          omega
        refine g (.ref a) H' ⟨kk, a, rfl, ?_, s.pick x.pre hk na ma (s.cell m c a hc e1)⟩
        rcases x.fr a ma with z | z
        · exact (na z).elim
        · exact z
end
section
variable {I : Info} {P : Program} {w : World} {K : PySem.W.Frag} {mg : Str → Option Value} {base : Heap} {n f : Nat} {fd : Fd} {N ps : List Str} {x qual : Str} {params : Arguments} {body : List Stmt} {scope : Scope}
theorem def_ok (hi : I.T.fds[f]? = some fd) (F : FunD K x qual params body scope [] [] (I.fad f) (I.ffd f)) (S : FnScope N ps scope) (hN : N.length = fd.nn) (hp : ps.length = fd.np) (hle : fd.np ≤ fd.nn) (wf : Wf I P w K mg base n) (ws : Ws I K mg)
    (sound : SoundSs I n N scope body fd.body) : FnOk P w K mg base (L2.CX P w) (2 * (n + 1) + 1) (I.fad f) (I.ffd f) ps (spM I K (n + 1) f) := by
  have unf : ∀ rvs S, callN I.T (n + 1) f rvs S = runF (I.g n) fd rvs S := fun rvs S => by
    show (match I.T.fds[f]? with
      | some fd => runF (I.T.g (callN I.T n)) fd rvs S
      | none => .fail) = _
    rw [hi]; rfl
  refine F.ok (k := 2 * n + 2) S (fun vs H Q E ⟨rvs, T0, as, r, s, g⟩ => ?_) fun cdv A outer s H vs Q E hr ⟨rvs, T0, as, r, sr, g⟩ => ⟨wpSs _ body, pss_wp, ?_⟩
  · rw [unf] at g
    unfold runF at g
    by_cases hl : rvs.length = fd.np
    · rw [← vrels_len r, hl, hp]
    · rw [if_neg hl] at g
      exact g.elim
  · rw [unf] at g
    unfold runF at g
    by_cases hl : rvs.length = fd.np
    · rw [if_pos hl] at g
      have cn : Cs I n N scope (cxOf (L2.CX P w) P w K mg base N qual scope (I.fad f) cdv A outer s H E) (fun cls d _ H => E cls d H) := {
        cn := { wf := wf, ws := ws, hN := rfl, hsc := rfl, calm := rfl, nd := S.nd, tk := takes_of rfl rfl rfl rfl, room := hr }
        fn := fun _ => rfl
        own := passes_of rfl
        stack := rfl
        frame := rfl }
      refine sound _ _ cn (rvs.map some ++ List.replicate (fd.nn - fd.np) none) T0 as _ H _ (env_start r (by rw [hN]; omega)) sr ?_
      cases hm : exs (I.g n) fd.body (rvs.map some ++ List.replicate (fd.nn - fd.np) none) T0 with
      | nx ρ' S1 =>
        rw [hm] at g
        intro as' σ' H' x he' hs'
        exact fin_ok (v := .d .non) (W := fun _ _ _ _ => True) (σ := []) (Q := Q) sr x (Res.ofD .refl hs' (by unfold rel; rfl)) g
      | ret v S1 =>
        rw [hm] at g
        intro as' H1 u H' x res
        refine fin_ok (v := v) (W := fun cls d _ H => E cls d H) (σ := []) (Q := Q) sr x res ?_
        cases hf : fin T0.length v S1 with
        | ok rv S' =>
          have g' : (match fin T0.length v S1 with
            | .ok rv S' => ResQ K I.ct as H Q rv S'
            | .exc c fs S' => ∀ cls d H', Keep as H H' → SRel K I.ct as H' S' → xrel K I.ct as H' c fs cls d → E cls d H'
            | .fail => False) := g
          rw [hf] at g'
          exact g'
        | exc c fs S' =>
          have g' : (match fin T0.length v S1 with
            | .ok rv S' => ResQ K I.ct as H Q rv S'
            | .exc c fs S' => ∀ cls d H', Keep as H H' → SRel K I.ct as H' S' → xrel K I.ct as H' c fs cls d → E cls d H'
            | .fail => False) := g
          rw [hf] at g'
          exact g'
        | fail =>
          have g' : (match fin T0.length v S1 with
            | .ok rv S' => ResQ K I.ct as H Q rv S'
            | .exc c fs S' => ∀ cls d H', Keep as H H' → SRel K I.ct as H' S' → xrel K I.ct as H' c fs cls d → E cls d H'
            | .fail => False) := g
          rw [hf] at g'
          exact g'
      | exc c fs ρ' S1 =>
        rw [hm] at g
        intro as' σ' H' cls d x he' hs' xr
        exact g cls d H' x.k (hs'.cut x.pre sr.len) (xr.sub fun a z => x.pre.subset z)
      | fail => rw [hm] at g; exact g.elim
    · rw [if_neg hl] at g
      exact g.elim
/-- no def at all, at depth zero -/
theorem fn_none {fa : Addr} {fdd : FuncData} {k : Nat} (h : ∀ rvs S, callN I.T n f rvs S = .fail) : FnOk P w K mg base (L2.CX P w) k fa fdd ps (spM I K n f) where
  len := fun vs H Q E ⟨rvs, S, as, r, s, g⟩ => by rw [h] at g; exact g.elim
  run := fun A outer s H args us vs Q E _ _ _ _ ⟨rvs, S, as, r, sr, g⟩ => by rw [h] at g; exact g.elim
end
theorem sS_bad {I : Info} {n : Nat} {N : List Str} {sc : Scope} {st : Stmt} : SoundS I n N sc st .bad := by
  intro X W hc ρ S as σ H D he hs g
  unfold ex at g
  exact g.elim
end MI
set_option linter.all false
set_option Elab.async false
set_option maxRecDepth 100000
set_option maxHeartbeats 1000000
namespace MI
open PySem PySem.Spec PyProof.Rows L2
/-! ### raise -/
section
variable {X : Cx} {C : Addr} {bmB : List Value} {B newId initId : String}
/-- X(), an own error class without own __init__ -/
theorem pmk_own0 {x : Str} {p pos : Pos} (F : ExcBaseFacts B newId initId bmB) (q : PySem.W.excIn X.K C bmB newId = true) (gC : X.mg x = some (.ref C)) (kC : PySem.W.keepIn X.K (.ref C) = true) (r : Raises X (.ref C)) (hg : Gl X x)
    (hdb : (x == ("__debug__" : Str)) = false) : PMk X (.Call (.Name x p) [] [] pos) (fun _ H Q => Q (.ref C) none H) := by
  intro pins s σ H Q I h
  refine wpAny_Call_Name_kw (ld_glob I hg gC (PySem.W.callWith_K0 I.kIn kC ?_) hdb)
  obtain ⟨bm, N, nm, qn, bs, hdct, sn, sub, ab, col, dd, k0, k1, k2, k3, k5, mN, hC, hN, hni, T⟩ := exc_obj I.kIn q
  exact wpAny_call_exc_subT F T hC hN hni (fun h' e hm => mk_of I hm r h (I.hok.gone hm.new)) (Nat.zero_le _)
end
/-- the arguments that are written without a star -/
def lenEs : Es → Option Nat
  | .nil => some 0
  | .cons star _ r => if star then none else (lenEs r).map (· + 1)
theorem evh_len {g : G} : ∀ {es : MI.Es} {ρ : Rho} {S : Sto} {rvs : List RV} {S' : Sto} {k : Nat}, evh g es ρ S = .ok rvs S' → lenEs es = some k → rvs.length = k
  | .nil, ρ, S, rvs, S', k, h, e => by
    unfold evh at h
    cases h
    cases e
    rfl
  | .cons star a r, ρ, S, rvs, S', k, h, e => by
    unfold lenEs at e
    cases star with
    | true => cases e
    | false =>
      rw [if_neg Bool.false_ne_true] at e
      obtain ⟨j, hj, rfl⟩ := Option.map_eq_some_iff.mp e
      unfold evh at h
      cases ha : ev g a ρ S with
      | exc c fs S1 => rw [ha] at h; cases h
      | fail => rw [ha] at h; cases h
      | ok v S1 =>
        rw [ha] at h
        have h : ((R.of v.hand S1).bind fun v S => (evh g r ρ S).bind fun vs S => .ok (v :: vs) S) = .ok rvs S' := h
        cases hv : v.hand with
        | none => rw [hv] at h; cases h
        | some v' =>
          rw [hv] at h
          have h : ((evh g r ρ S1).bind fun vs S => .ok (v' :: vs) S) = .ok rvs S' := h
          cases hr : evh g r ρ S1 with
          | exc c fs S2 => rw [hr] at h; cases h
          | fail => rw [hr] at h; cases h
          | ok vs S2 =>
            rw [hr] at h
            cases h
            simp [evh_len hr hj]
section
variable {I : Info} {n : Nat} {N : List Str} {sc : Scope} {X : Cx} {W : WX} {ρ : Rho} {S : Sto} {as : List Addr} {σ : L2.St} {H : Hp} {Q : VK} {D : Ends} {a b c tg elt iter e o i : Expr} {A B C EO EI : E} {pos p p2 pos2 apos : Pos} {scope : Scope} {st : Stmt} {sts sts2 : List Stmt} {s : MI.S} {ss ss2 : Ss}
theorem sS_raise0 {cl : Nat} {x : Str} (hcl : cl ∈ I.e0) (hx : I.cnm[cl]? = some x) (hg : sc.names.lookup x = some .globalImplicit) (hdb : (x == ("__debug__" : Str)) = false) : SoundS I n N sc (.Raise (some (.Call (.Name x p) [] [] pos)) none pos2) (.raise cl .nil) := by
  intro X W hc ρ S as σ H D he hs g
  obtain ⟨h1, h2, h3, h4⟩ := hc.cn.ws.e0 cl hcl
  refine (ps_raise (X := X) hc.cn.calm hc.cn.tk (pmk_own0 PySem.F.excBase_ValueError h1 (hc.cn.ws.cn cl x hx) h2 (raises_own h3 h4) (hc.cn.gl hg) hdb)).wp ?_
  unfold ex evh at g
  exact g as σ H _ _ .refl he hs ⟨rfl, .inl rfl⟩
theorem sS_raise1 {cl : Nat} {x : Str} {es : List Expr} {Es : MI.Es} (hcl : cl ∈ I.e1) (hx : I.cnm[cl]? = some x) (hg : sc.names.lookup x = some .globalImplicit) (hdb : (x == ("__debug__" : Str)) = false) (sr : SoundA I n N sc (e :: es) Es) (hst : (e :: es).all (fun e => !isStar e) = true) (hl : lenEs Es = some (I.ct.nms cl).length) :
    SoundS I n N sc (.Raise (some (.Call (.Name x p) (e :: es) [] pos)) none pos2) (.raise cl Es) := by
  intro X W hc ρ S as σ H D he hs g
  obtain ⟨hO, fI, fd, ps, h1, h2, F, hb⟩ := hc.cn.wf.e1 cl hcl
  have hst' := hst
  rw [List.all_cons, Bool.and_eq_true] at hst'
  refine (ps_raise (X := X) hc.cn.calm hc.cn.tk (pmk_oex (X := X) hO h1 h2 F (hc.cn.room.mono (by omega)) hb .nil (fun pins σ H s e s' _ hq => by
    obtain ⟨_, _, _, _, _, _, _, _, _, _, _, _, z⟩ := hq
    exact z.elim) (hc.cn.gl hg) (hc.cn.ws.cn cl x hx) (pa_wp (X := X) (es := e :: es)) hdb (star_plain (by simpa using hst'.1)) (back_none hst'.2))).wp ?_
  unfold ex at g
  have g0 := GoodX.then_ he g
  have hlen : ∀ rvs S', evh (I.g n) Es ρ S = .ok rvs S' → rvs.length = (I.ct.nms cl).length := fun rvs S' h => evh_len h hl
  refine sr X W hc.cn ρ S as σ H _ he hs ?_
  cases hv : evh (I.g n) Es ρ S with
  | exc c fs S1 => rw [hv] at g0; exact g0
  | fail => rw [hv] at g0; exact g0
  | ok rvs S1 =>
    rw [hv] at g0
    have ll := hlen rvs S1 hv
    intro vs H1 k1 s1 r1
    have g1 : GoodX X.K I.ct W as H D ((R.of (rvs.mapM RV.data) S1).then_ ρ fun ds S => .exc cl ds ρ S) := g0
    cases hd : rvs.mapM RV.data with
    | none => rw [hd] at g1; exact g1.elim
    | some ds =>
      rw [hd] at g1
      have rd : rels X.K I.ct as H1 ds vs := vdata r1 hd
      have lv : vs.length = (I.ct.nms cl).length := by rw [← vrels_len r1, ll]
      have hn := (hc.cn.ws.nnd cl).2
      refine ⟨by omega, fun aa ha => ?_⟩
      refine ⟨aa, vs, by rw [List.append_nil], lv, upd_same, fun H2 dx fs hdx hne e1 e2 e3 e4 => ⟨rfl, dx, fs, e1, e2, ?_, ?_⟩⟩
      · rw [upd_ne hne] at hdx; exact hdx
      · have hdx1 : H1 dx = none := by rw [upd_ne hne] at hdx; exact hdx
        have eH : upd (del H2 aa) dx (.xd fs) = upd H1 dx (.xd fs) := by
          funext b
          by_cases hb : b = dx
          · subst hb; rw [upd_same, upd_same]
          · rw [upd_ne hb, upd_ne hb]
            by_cases hb2 : b = aa
            · subst hb2; rw [del_same, ha]
            · rw [del_ne hb2, e3 b hb2 hb, upd_ne hb2]
        rw [eH]
        have kn : Keep as H1 (upd H1 dx (.xd fs)) := .new hdx1
        refine g1 as σ _ _ _ (.keep (k1.tr kn)) (he.keep (k1.tr kn)) (s1.fresh hdx1) ⟨rfl, .inr ⟨dx, fs, vs, rfl, s1.off hdx1, upd_same, rd.keep kn, e4⟩⟩
end
end MI
set_option linter.all false
set_option Elab.async false
set_option maxRecDepth 100000
set_option maxHeartbeats 4000000
namespace MI
open PySem PySem.Spec PyProof.Rows L2
/-! ### the check of a mirror text against the text itself: expressions -/
structure Ck where
  nf : Nat
  fnm : List (Option Str)
  cnm : List Str
  gnm : List Str
  obs : List Nat
  mes : List (Nat × Nat × Str)
  prs : List (Nat × Nat × Str)
  nms : Nat → List Str
  init : List Nat
  e0 : List Nat
  e1 : List Nat
structure CkOk (I : Info) (ck : Ck) : Prop where
  nf : I.T.fds.length = ck.nf
  fnm : I.fnm = ck.fnm
  cnm : I.cnm = ck.cnm
  gnm : I.gnm = ck.gnm
  obs : I.obs = ck.obs
  mes : I.mes = ck.mes
  prs : I.prs = ck.prs
  nms : I.ct.nms = ck.nms
  init : I.T.init = ck.init
  e0 : I.e0 = ck.e0
  e1 : I.e1 = ck.e1
def glB (sc : Scope) (x : Str) : Bool := decide (sc.names.lookup x = some .globalImplicit)
def noDbg (x : Str) : Bool := !(x == ("__debug__" : Str))
def noStars (es : List Expr) : Bool := es.all fun e => !isStar e
def ownL (N : List Str) (own : List Nat) : List (Str × Nat) := own.map fun i => (N.getD i Str.empty, i)
theorem ownL_snd {N : List Str} {own : List Nat} : (ownL N own).map (·.2) = own := by
  unfold ownL
  rw [List.map_map]
  exact List.map_id own
def memM (l : List (Nat × Nat × Str)) (c f : Nat) (m : Str) : Bool := l.any fun p => p.1 == c && p.2.1 == f && decide (p.2.2 = m)
theorem memM_ok {l : List (Nat × Nat × Str)} {c f : Nat} {m : Str} (h : memM l c f m = true) : (c, f, m) ∈ l := by
  obtain ⟨⟨a, b, d⟩, h1, h2⟩ := List.any_eq_true.mp h
  simp only [Bool.and_eq_true, beq_iff_eq, decide_eq_true_eq] at h2
  obtain ⟨⟨rfl, rfl⟩, rfl⟩ := h2
  exact h1
/-- no choice where a test is asked for -/
def tE : E → Bool
  | .ite _ _ _ => false
  | .not a => tE a
  | .and a b => tE a && tE b
  | .or a b => tE a && tE b
  | _ => true
def initB (ck : Ck) (c : Nat) : Bool := match ck.init[c]? with
  | some f => decide (f < ck.nf)
  | none => false
/-- a built-in's call: the arguments that are checked -/
def biSel (ck : Ck) (sc : Scope) (b : Bi) (l : Str) (xs : List Expr) : Option (List Expr) := match b with
  | .lenSet => (match xs with
    | [.Call (.Name s _) [x] [] _] => if (decide (l = ("len" : Str)) && decide (s = ("set" : Str)) && !isStar x && glB sc "len" && glB sc "set") = true then some [x] else none
    | _ => none)
  | .sortSet => (match xs with
    | [.Call (.Name s _) [x] [] _] => if (decide (l = ("sorted" : Str)) && decide (s = ("set" : Str)) && !isStar x && glB sc "sorted" && glB sc "set") = true then some [x] else none
    | _ => none)
  | .isT t obs => (match xs with
    | [x, .Name y _] => if (decide (obs = ck.obs) && decide (l = ("isinstance" : Str)) && !isStar x && glB sc "isinstance" && glB sc y && (match t with
      | .cls c => decide (c ∈ ck.obs) && decide (ck.cnm[c]? = some y) && noDbg y
      | t => (match tyS t with
        | some s => decide (y = Str.ofString s)
        | none => false))) = true then some [x] else none
    | [x, .Tuple [.Name y _, .Name z _] _ _] => if (decide (obs = ck.obs) && decide (l = ("isinstance" : Str)) && !isStar x && glB sc "isinstance" && glB sc "list" && glB sc "tuple" && decide (t = .lt) &&
        ((decide (y = Str.ofString "list") && decide (z = Str.ofString "tuple")) || (decide (y = Str.ofString "tuple") && decide (z = Str.ofString "list")))) = true then some [x] else none
    | _ => none)
  | b => (match xs with
    | x :: xs => if (decide (l = biName b) && (biFn b).isSome && noStars (x :: xs) && glB sc (biName b)) = true then some (x :: xs) else none
    | _ => none)
mutual
def okE (ck : Ck) (N : List Str) : E → Scope → Expr → Bool
  | .var i, sc, e => (match e with
    | .Name x _ => decide (N[i]? = some x) && visB sc x && noDbg x && !(x == ("__classdict__" : Str))
    | _ => false)
  | .k d, _, e => (match e with
    | .Constant k _ _ => (match kD k with
      | some d' => d'.beq d
      | none => false)
    | _ => false)
  | .glob i, sc, e => (match e with
    | .Name x _ => decide (ck.gnm[i]? = some x) && glB sc x && noDbg x
    | _ => false)
  | .tup es, sc, e => (match e with
    | .Tuple xs _ _ => okEs ck N es sc xs
    | _ => false)
  | .lst es, sc, e => (match e with
    | .List xs _ => okEs ck N es sc xs
    | _ => false)
  | .call f es, sc, e => (match e with
    | .Call (.Name x _) xs [] _ => decide (ck.fnm[f]? = some (some x)) && decide (f < ck.nf) && glB sc x && noDbg x && noStars xs && okEs ck N es sc xs
    | _ => false)
  | .mk c es, sc, e => (match e with
    | .Call (.Name x _) xs [] _ => decide (c ∈ ck.obs) && decide (ck.cnm[c]? = some x) && initB ck c && glB sc x && noDbg x && noStars xs && okEs ck N es sc xs
    | _ => false)
  | .bi b es, sc, e => (match e with
    | .Call (.Name l _) xs [] _ => (match biSel ck sc b l xs with
      | some ys => okEs ck N es sc ys
      | none => false)
    | _ => false)
  | .op o a b, sc, e => (match e with
    | .BinOp x op y _ => decide (opOf op = some o) && okE ck N a sc x && okE ck N b sc y
    | .Compare x [op] [y] _ => decide (cmpOf op = some o) && !isSet y && okE ck N a sc x && okE ck N b sc y
    | _ => false)
  | .chain o p a b c, sc, e => (match e with
    | .Compare x [op, op2] [y, z] _ => decide (cmpOf op = some o) && decide (cmpOf op2 = some p) && !isSet z && okE ck N a sc x && okE ck N b sc y && okE ck N c sc z
    | _ => false)
  | .isN a, sc, e => (match e with
    | .Compare x [.Is] [.Constant .none _ _] _ => okE ck N a sc x
    | _ => false)
  | .notN a, sc, e => (match e with
    | .Compare x [.IsNot] [.Constant .none _ _] _ => okE ck N a sc x
    | _ => false)
  | .isB a k, sc, e => (match e with
    | .Compare x [.Is] [.Constant (.bool k') _ _] _ => (k' == k) && okE ck N a sc x
    | _ => false)
  | .notB a k, sc, e => (match e with
    | .Compare x [.IsNot] [.Constant (.bool k') _ _] _ => (k' == k) && okE ck N a sc x
    | _ => false)
  | .neg a, sc, e => (match e with
    | .UnaryOp .USub x _ => okE ck N a sc x
    | _ => false)
  | .not a, sc, e => (match e with
    | .UnaryOp .Not x _ => okE ck N a sc x
    | _ => false)
  | .and a b, sc, e => (match e with
    | .BoolOp .And [x, y] _ => okE ck N a sc x && okE ck N b sc y
    | .BoolOp .And (x :: y :: z :: r) p => okE ck N a sc x && okE ck N b sc (.BoolOp .And (y :: z :: r) p)
    | _ => false)
  | .or a b, sc, e => (match e with
    | .BoolOp .Or [x, y] _ => okE ck N a sc x && okE ck N b sc y
    | .BoolOp .Or (x :: y :: z :: r) p => okE ck N a sc x && okE ck N b sc (.BoolOp .Or (y :: z :: r) p)
    | _ => false)
  | .ite c a b, sc, e => (match e with
    | .IfExp x y z _ => tE c && okE ck N c sc x && okE ck N a sc y && okE ck N b sc z
    | _ => false)
  | .comp elt tg it ifs own, sc, e => (match e with
    | .ListComp x [⟨t, i, fs, m⟩] scope _ => decide (m = 0) && slotsIn tg own && blkC N sc scope (ownL N own) && tgB N scope t tg && !isSet i && okI ck N it sc t i && okF ck N ifs (relS scope sc) fs && okE ck N elt (relS scope sc) x
    | _ => false)
  | .comp2 elt tg it tg2 it2 ifs own own2, sc, e => (match e with
    | .ListComp x [⟨t, i, [], m⟩, ⟨t2, i2, fs, m2⟩] scope _ => decide (m = 0) && decide (m2 = 0) && slotsIn tg own && slotsIn tg2 own2 && (own2.all fun i => own.contains i) && blkC N sc scope (ownL N own) && tgB N scope t tg && tgB N scope t2 tg2 && !isSet i && !isSet i2 &&
        okI ck N it sc t i && okI ck N it2 (relS scope sc) t2 i2 && okF ck N ifs (relS scope sc) fs && okE ck N elt (relS scope sc) x
    | _ => false)
  | .sub a i, sc, e => (match e with
    | .Subscript x y _ => !isSlice y && okE ck N a sc x && okE ck N i sc y
    | _ => false)
  | .slice a lo hi, sc, e => (match e with
    | .Subscript x (.Slice l u none _) _ => okE ck N a sc x && okP ck N lo sc l && okP ck N hi sc u
    | _ => false)
  | .rev a, sc, e => (match e with
    | .Subscript x (.Slice none none (some (.UnaryOp .USub (.Constant (.int j) _ _) _)) _) _ => decide (j = 1) && okE ck N a sc x
    | _ => false)
  | .fld c k a, sc, e => (match e with
    | .Attribute x f _ => decide (c ∈ ck.obs) && decide ((ck.nms c)[k]? = some f) && noCall x && okE ck N a sc x
    | _ => false)
  | .prop c f a, sc, e => (match e with
    | .Attribute x m _ => memM ck.prs c f m && decide (f < ck.nf) && noCall x && okE ck N a sc x
    | _ => false)
  | .pop a, sc, e => (match e with
    | .Call (.Attribute x m ap) [] [] cp => decide (m = ("pop" : Str)) && noCall x && (ap.endLine == cp.line) && okE ck N a sc x
    | _ => false)
  | .popAt a i, sc, e => (match e with
    | .Call (.Attribute x m ap) [y] [] cp => decide (m = ("pop" : Str)) && noCall x && !isStar y && (ap.endLine == cp.line) && okE ck N a sc x && okE ck N i sc y
    | _ => false)
  | .app a b, sc, e => (match e with
    | .Call (.Attribute x m ap) [y] [] cp => decide (m = ("append" : Str)) && noCall x && !isStar y && (ap.endLine == cp.line) && okE ck N a sc x && okE ck N b sc y
    | _ => false)
  | .ext a b, sc, e => (match e with
    | .Call (.Attribute x m ap) [y] [] cp => decide (m = ("extend" : Str)) && noCall x && !isStar y && (ap.endLine == cp.line) && okE ck N a sc x && okE ck N b sc y
    | _ => false)
  | .lrange a, sc, e => (match e with
    | .Call (.Name l _) [.Call (.Name r _) [x] [] _] [] _ => decide (l = ("list" : Str)) && decide (r = ("range" : Str)) && !isStar x && glB sc "list" && glB sc "range" && okE ck N a sc x
    | _ => false)
  | .dnew es, _, e => (match es, e with
    | .nil, .Dict [] [] _ => true
    | _, _ => false)
  | _, _, _ => false
def okEs (ck : Ck) (N : List Str) : Es → Scope → List Expr → Bool
  | .nil, _, xs => (match xs with
    | [] => true
    | _ => false)
  | .cons star a r, sc, xs => (match xs with
    | x :: xs => (match star with
      | false => !isStar x && okE ck N a sc x && okEs ck N r sc xs
      | true => (match x with
        | .Starred y _ => okE ck N a sc y && okEs ck N r sc xs
        | _ => false))
    | [] => false)
def okI (ck : Ck) (N : List Str) : MI.I → Scope → Expr → Expr → Bool
  | .e a, sc, _, x => okE ck N a sc x
  | .range1 a, sc, _, x => (match x with
    | .Call (.Name l _) [y] [] _ => decide (l = ("range" : Str)) && !isStar y && glB sc "range" && okE ck N a sc y
    | _ => false)
  | .range2 a b, sc, _, x => (match x with
    | .Call (.Name l _) [y, z] [] _ => decide (l = ("range" : Str)) && !isStar y && !isStar z && glB sc "range" && okE ck N a sc y && okE ck N b sc z
    | _ => false)
  | .enum a, sc, t, x => (match t, x with
    | .Tuple _ _ _, .Call (.Name l _) [y] [] _ => decide (l = ("enumerate" : Str)) && !isStar y && glB sc "enumerate" && okE ck N a sc y
    | _, _ => false)
  | .zip a b, sc, t, x => (match t, x with
    | .Tuple _ _ _, .Call (.Name l _) [y, z] [] _ => decide (l = ("zip" : Str)) && !isStar y && !isStar z && glB sc "zip" && okE ck N a sc y && okE ck N b sc z
    | _, _ => false)
def okP (ck : Ck) (N : List Str) : O → Scope → Option Expr → Bool
  | .no, _, x => (match x with
    | none => true
    | _ => false)
  | .yes a, sc, x => (match x with
    | some y => okE ck N a sc y
    | _ => false)
def okF (ck : Ck) (N : List Str) : O → Scope → List Expr → Bool
  | .no, _, x => (match x with
    | [] => true
    | _ => false)
  | .yes a, sc, x => (match x with
    | [y] => tE a && okE ck N a sc y
    | _ => false)
end
end MI
set_option linter.all false
set_option Elab.async false
set_option maxRecDepth 100000
set_option maxHeartbeats 4000000
namespace MI
open PySem PySem.Spec PyProof.Rows L2
/-! ### the check is sound: expressions -/
def EOk (I : Info) (n : Nat) (N : List Str) (sc : Scope) (e : Expr) (E : MI.E) : Prop := SoundE I n N sc e E ∧ (tE E = true → SoundT I n N sc e (fun ρ S => tst (ev (I.g n) E ρ S))) ∧
  (tE E = true → ∀ op vs p, e = .BoolOp op vs p → SoundW I n N sc e (fun ρ S => tst (ev (I.g n) E ρ S)))
def AOk (I : Info) (n : Nat) (N : List Str) (sc : Scope) (xs : List Expr) (Es : MI.Es) : Prop := SoundA I n N sc xs Es ∧ ∀ a, xs = [a] → isStar a = false → ∃ A, Es = .cons false A .nil ∧ SoundE I n N sc a A
section
variable {I : Info} {n : Nat} {N : List Str} {sc : Scope} {ck : Ck} {e a b c : Expr} {A B C : E} {p pos : Pos}
theorem EOk.val (s : SoundE I n N sc e A) (h : valT e = true) : EOk I n N sc e A := ⟨s, fun _ => sT_val s h, fun _ op vs p q => by subst q; cases h⟩
theorem EOk.cmp {l : Expr} {ops : List CmpOp} {rs : List Expr} (s : SoundE I n N sc (.Compare l ops rs p) A) (t : SoundT I n N sc (.Compare l ops rs p) (fun ρ S => tst (ev (I.g n) A ρ S))) : EOk I n N sc (.Compare l ops rs p) A := ⟨s, fun _ => t, fun _ op vs p q => by cases q⟩
theorem gl_of {x : Str} (h : glB sc x = true) : sc.names.lookup x = some .globalImplicit := of_decide_eq_true h
theorem dbg_of {x : Str} (h : noDbg x = true) : (x == ("__debug__" : Str)) = false := by simpa [noDbg] using h
theorem nst {e : Expr} (h : (!isStar e) = true) : isStar e = false := by simpa using h
theorem nse {e : Expr} (h : (!isSet e) = true) : isSet e = false := by simpa using h
theorem nsl {e : Expr} (h : (!isSlice e) = true) : isSlice e = false := by simpa using h
theorem tst_not {g : G} {ρ : Rho} {S : Sto} : tst (ev g (.not A) ρ S) = (tst (ev g A ρ S)).bind fun r S => .ok (!r) S := by
  rw [ev]
  cases tst (ev g A ρ S) <;> rfl
theorem tst_and {g : G} {ρ : Rho} {S : Sto} : tst (ev g (.and A B) ρ S) = (tst (ev g A ρ S)).bind fun k S => if k then tst (ev g B ρ S) else .ok false S := by
  rw [ev]
  cases tst (ev g A ρ S) with
  | ok r S1 => cases r <;> rfl
  | exc c fs S1 => rfl
  | fail => rfl
theorem tst_or {g : G} {ρ : Rho} {S : Sto} : tst (ev g (.or A B) ρ S) = (tst (ev g A ρ S)).bind fun k S => if k then .ok true S else tst (ev g B ρ S) := by
  rw [ev]
  cases tst (ev g A ρ S) with
  | ok r S1 => cases r <;> rfl
  | exc c fs S1 => rfl
  | fail => rfl
theorem SoundT.eq {m m' : Rho → Sto → R Bool} (s : SoundT I n N sc e m) (h : ∀ ρ S, m' ρ S = m ρ S) : SoundT I n N sc e m' := by
  have : m' = m := funext fun ρ => funext fun S => h ρ S
  rw [this]; exact s
theorem SoundW.eq {m m' : Rho → Sto → R Bool} (s : SoundW I n N sc e m) (h : ∀ ρ S, m' ρ S = m ρ S) : SoundW I n N sc e m' := by
  have : m' = m := funext fun ρ => funext fun S => h ρ S
  rw [this]; exact s
theorem EOk.w {op : BoolOp} {vs : List Expr} (s : SoundE I n N sc (.BoolOp op vs p) A) (t : tE A = true → SoundW I n N sc (.BoolOp op vs p) (fun ρ S => tst (ev (I.g n) A ρ S))) : EOk I n N sc (.BoolOp op vs p) A := ⟨s, fun h => (t h).t, fun h _ _ _ _ => t h⟩
theorem and2 (ha : EOk I n N sc a A) (hb : EOk I n N sc b B) : EOk I n N sc (.BoolOp .And [a, b] pos) (.and A B) := by
  refine .w (sE_and (p := pos) (p' := pos) ha.1 (sE_one hb.1)) fun h => ?_
  have h' : (tE A && tE B) = true := h
  rw [Bool.and_eq_true] at h'
  exact (sW_and (ha.2.1 h'.1) (sW_one (hb.2.1 h'.2))).eq fun ρ S => tst_and
theorem or2 (ha : EOk I n N sc a A) (hb : EOk I n N sc b B) : EOk I n N sc (.BoolOp .Or [a, b] pos) (.or A B) := by
  refine .w (sE_or ha.1 (sE_one hb.1)) fun h => ?_
  have h' : (tE A && tE B) = true := h
  rw [Bool.and_eq_true] at h'
  exact (sW_or (ha.2.1 h'.1) (sW_one (hb.2.1 h'.2))).eq fun ρ S => tst_or
theorem andN {r : List Expr} (ha : EOk I n N sc a A) (hb : EOk I n N sc (.BoolOp .And (b :: c :: r) pos) B) : EOk I n N sc (.BoolOp .And (a :: b :: c :: r) pos) (.and A B) := by
  refine .w (sE_and (p := pos) (p' := pos) ha.1 hb.1) fun h => ?_
  have h' : (tE A && tE B) = true := h
  rw [Bool.and_eq_true] at h'
  exact (sW_and (ha.2.1 h'.1) (hb.2.2 h'.2 _ _ _ rfl)).eq fun ρ S => tst_and
theorem orN {r : List Expr} (ha : EOk I n N sc a A) (hb : EOk I n N sc (.BoolOp .Or (b :: c :: r) pos) B) : EOk I n N sc (.BoolOp .Or (a :: b :: c :: r) pos) (.or A B) := by
  refine .w (sE_or ha.1 hb.1) fun h => ?_
  have h' : (tE A && tE B) = true := h
  rw [Bool.and_eq_true] at h'
  exact (sW_or (ha.2.1 h'.1) (hb.2.2 h'.2 _ _ _ rfl)).eq fun ρ S => tst_or
/-- {} -/
theorem sE_dnew0 : SoundE I n N sc (.Dict [] [] pos) (.dnew .nil) := by
  intro X W hc ρ S as σ H Q he hs g
  unfold ev evh at g
  refine PE.wp pe_dnewT fun p hp => ?_
  exact g _ _ ⟨.new hp, p, rfl, hp, hs.push hp (.new hp) (fun a ha => upd_ne fun z => hs.off hp (z ▸ ha)) ⟨[], upd_same, .nil⟩⟩
theorem glob_find {b : Bi} {fn : Value} (h : biFn b = some fn) : True := trivial
theorem ite_some {α : Type} {c : Bool} {a b : α} (h : (if c = true then some a else none) = some b) : c = true ∧ a = b := by
  cases c
  · cases h
  · cases h; exact ⟨rfl, rfl⟩
theorem bi_gen (hy : Hyp I n) {b : Bi} {l : Str} {xs ys : List Expr} {Es : MI.Es} (h : (match xs with
    | x :: xs => if (decide (l = biName b) && (biFn b).isSome && noStars (x :: xs) && glB sc (biName b)) = true then some (x :: xs) else none
    | _ => none) = some ys) (ha : AOk I n N sc ys Es) : SoundE I n N sc (.Call (.Name l p) xs [] pos) (.bi b Es) := by
  cases xs with
  | nil => cases h
  | cons x xs =>
    obtain ⟨hh, rfl⟩ := ite_some h
    simp only [Bool.and_eq_true, decide_eq_true_eq] at hh
    obtain ⟨⟨⟨rfl, h2⟩, h3⟩, h4⟩ := hh
    obtain ⟨fn, hf⟩ := Option.isSome_iff_exists.mp h2
    exact sE_bi hy hf ha.1 h3 (gl_of h4)
theorem biSel_ok (hy : Hyp I n) (hck : CkOk I ck) {bi : Bi} {l : Str} {xs ys : List Expr} {Es : MI.Es} (h : biSel ck sc bi l xs = some ys) (ha : AOk I n N sc ys Es) : SoundE I n N sc (.Call (.Name l p) xs [] pos) (.bi bi Es) := by
  cases bi with
  | lenSet =>
    unfold biSel at h
    dsimp only at h
    split at h
    · obtain ⟨hh, rfl⟩ := ite_some h
      · simp only [Bool.and_eq_true, decide_eq_true_eq] at hh
        obtain ⟨⟨⟨⟨rfl, rfl⟩, h3⟩, h4⟩, h5⟩ := hh
        exact sE_lenSet hy ha.1 (nst h3) (gl_of h4) (gl_of h5)
    · cases h
  | sortSet =>
    unfold biSel at h
    dsimp only at h
    split at h
    · obtain ⟨hh, rfl⟩ := ite_some h
      · simp only [Bool.and_eq_true, decide_eq_true_eq] at hh
        obtain ⟨⟨⟨⟨rfl, rfl⟩, h3⟩, h4⟩, h5⟩ := hh
        exact sE_sortSet hy ha.1 (nst h3) (gl_of h4) (gl_of h5)
    · cases h
  | isT t obs =>
    unfold biSel at h
    dsimp only at h
    split at h
    · obtain ⟨hh, rfl⟩ := ite_some h
      · simp only [Bool.and_eq_true, decide_eq_true_eq] at hh
        obtain ⟨⟨⟨⟨⟨rfl, rfl⟩, h3⟩, h4⟩, h5⟩, h6⟩ := hh
        obtain ⟨A, rfl, sa⟩ := ha.2 _ rfl (nst h3)
        rw [← hck.obs]
        split at h6
        · simp only [Bool.and_eq_true, decide_eq_true_eq] at h6
          obtain ⟨⟨g1, g2⟩, g3⟩ := h6
          exact sE_isTc sa (nst h3) (by rw [hck.obs]; exact g1) (by rw [hck.cnm]; exact g2) (gl_of h4) (gl_of h5) (dbg_of g3)
        · split at h6
          · rename_i s hs
            have := of_decide_eq_true h6
            subst this
            exact sE_isTb sa (nst h3) hs (gl_of h4) (gl_of h5)
          · cases h6
    · obtain ⟨hh, rfl⟩ := ite_some h
      · simp only [Bool.and_eq_true, Bool.or_eq_true, decide_eq_true_eq] at hh
        obtain ⟨⟨⟨⟨⟨⟨⟨rfl, rfl⟩, h3⟩, h4⟩, h5⟩, h6⟩, rfl⟩, h8⟩ := hh
        obtain ⟨A, rfl, sa⟩ := ha.2 _ rfl (nst h3)
        rw [← hck.obs]
        rcases h8 with ⟨rfl, rfl⟩ | ⟨rfl, rfl⟩
        · exact sE_isTlt (es := []) sa (nst h3) (.inl ⟨rfl, rfl⟩) (gl_of h4) (gl_of h5) (gl_of h6)
        · exact sE_isTlt (es := []) sa (nst h3) (.inr ⟨rfl, rfl⟩) (gl_of h4) (gl_of h6) (gl_of h5)
    · cases h
  | _ => exact bi_gen hy h ha
theorem fd_of (hck : CkOk I ck) {f : Nat} (h : f < ck.nf) : (I.T.fds[f]?).isSome = true := by
  rw [← hck.nf] at h
  rw [List.getElem?_eq_getElem h]; rfl
theorem init_of (hck : CkOk I ck) {c : Nat} (h : initB ck c = true) : ∃ f, I.T.init[c]? = some f ∧ (I.T.fds[f]?).isSome = true := by
  unfold initB at h
  split at h
  · rename_i f hf
    exact ⟨f, by rw [hck.init]; exact hf, fd_of hck (of_decide_eq_true h)⟩
  · cases h
variable (hy : Hyp I n) (hdi : DictIn I n) (hck : CkOk I ck)
include hy hdi hck
mutual
theorem okE_ok : ∀ (E : MI.E) (sc : Scope) (e : Expr), okE ck N E sc e = true → EOk I n N sc e E
  | .var i, sc, e, h => by
    unfold okE at h
    split at h
    · simp only [Bool.and_eq_true, decide_eq_true_eq, Bool.not_eq_true'] at h
      obtain ⟨⟨⟨h1, h2⟩, h3⟩, h4⟩ := h
      exact .val (sE_var h1 h2 (dbg_of h3) h4) rfl
    · cases h
  | .k d, sc, e, h => by
    unfold okE at h
    split at h
    · split at h
      · rename_i d' hd
        have := D.beq_eq _ _ h
        subst this
        exact .val (sE_k hd) rfl
      · cases h
    · cases h
  | .glob i, sc, e, h => by
    unfold okE at h
    split at h
    · simp only [Bool.and_eq_true, decide_eq_true_eq] at h
      obtain ⟨⟨h1, h2⟩, h3⟩ := h
      exact .val (sE_glob (by rw [hck.gnm]; exact h1) (gl_of h2) (dbg_of h3)) rfl
    · cases h
  | .tup es, sc, e, h => by
    unfold okE at h
    split at h
    · exact .val (sE_tup (okEs_ok es sc _ h).1) rfl
    · cases h
  | .lst es, sc, e, h => by
    unfold okE at h
    split at h
    · exact .val (sE_lst (okEs_ok es sc _ h).1) rfl
    · cases h
  | .call f es, sc, e, h => by
    unfold okE at h
    split at h
    · rename_i x p' xs p''
      simp only [Bool.and_eq_true, decide_eq_true_eq] at h
      obtain ⟨⟨⟨⟨⟨h1, h2⟩, h3⟩, h4⟩, h5⟩, h6⟩ := h
      have hs := (okEs_ok es sc _ h6).1
      cases xs with
      | nil =>
        cases es with
        | nil => exact .val (sE_call0 (by rw [hck.fnm]; exact h1) (fd_of hck h2) (gl_of h3) (dbg_of h4)) rfl
        | cons s a r => unfold okEs at h6; cases h6
      | cons y ys => exact .val (sE_call (by rw [hck.fnm]; exact h1) (fd_of hck h2) hs h5 (gl_of h3) (dbg_of h4)) rfl
    · cases h
  | .mk cl es, sc, e, h => by
    unfold okE at h
    split at h
    · rename_i x p' xs p''
      simp only [Bool.and_eq_true, decide_eq_true_eq] at h
      obtain ⟨⟨⟨⟨⟨⟨h1, h2⟩, h3⟩, h4⟩, h5⟩, h6⟩, h7⟩ := h
      obtain ⟨f, hf, hlt⟩ := init_of hck h3
      have hs := (okEs_ok es sc _ h7).1
      cases xs with
      | nil =>
        cases es with
        | nil => exact .val (sE_mk0 (by rw [hck.obs]; exact h1) hf (by rw [hck.cnm]; exact h2) hlt (gl_of h4) (dbg_of h5)) rfl
        | cons s a r => unfold okEs at h7; cases h7
      | cons y ys => exact .val (sE_mk (by rw [hck.obs]; exact h1) hf (by rw [hck.cnm]; exact h2) hlt hs h6 (gl_of h4) (dbg_of h5)) rfl
    · cases h
  | .bi b es, sc, e, h => by
    unfold okE at h
    split at h
    · split at h
      · rename_i ys hb
        exact .val (biSel_ok hy hck hb (okEs_ok es sc ys h)) rfl
      · cases h
    · cases h
  | .op o a b, sc, e, h => by
    unfold okE at h
    split at h
    · simp only [Bool.and_eq_true, decide_eq_true_eq] at h
      obtain ⟨⟨h1, h2⟩, h3⟩ := h
      exact .val (sE_op hy hdi (okE_ok a sc _ h2).1 (okE_ok b sc _ h3).1 h1) rfl
    · simp only [Bool.and_eq_true, decide_eq_true_eq] at h
      obtain ⟨⟨⟨h1, h2⟩, h3⟩, h4⟩ := h
      exact .cmp (sE_cmp hy hdi (okE_ok a sc _ h3).1 (okE_ok b sc _ h4).1 h1 (nse h2)) (sT_cmp hy hdi (okE_ok a sc _ h3).1 (okE_ok b sc _ h4).1 h1 (nse h2))
    · cases h
  | .chain o p a b c, sc, e, h => by
    unfold okE at h
    split at h
    · simp only [Bool.and_eq_true, decide_eq_true_eq] at h
      obtain ⟨⟨⟨⟨⟨h1, h2⟩, h3⟩, h4⟩, h5⟩, h6⟩ := h
      exact .cmp (sE_chain hy hdi (okE_ok a sc _ h4).1 (okE_ok b sc _ h5).1 (okE_ok c sc _ h6).1 h1 h2 (nse h3)) (sT_chain hy hdi (okE_ok a sc _ h4).1 (okE_ok b sc _ h5).1 (okE_ok c sc _ h6).1 h1 h2 (nse h3))
    · cases h
  | .isN a, sc, e, h => by
    unfold okE at h
    split at h
    · exact .cmp (sE_isN (okE_ok a sc _ h).1) (sT_isN (okE_ok a sc _ h).1)
    · cases h
  | .notN a, sc, e, h => by
    unfold okE at h
    split at h
    · exact .cmp (sE_notN (okE_ok a sc _ h).1) (sT_notN (okE_ok a sc _ h).1)
    · cases h
  | .isB a k, sc, e, h => by
    unfold okE at h
    split at h
    · simp only [Bool.and_eq_true, beq_iff_eq] at h
      obtain ⟨rfl, h2⟩ := h
      exact .cmp (sE_isB (okE_ok a sc _ h2).1) (sT_isB (okE_ok a sc _ h2).1)
    · cases h
  | .notB a k, sc, e, h => by
    unfold okE at h
    split at h
    · simp only [Bool.and_eq_true, beq_iff_eq] at h
      obtain ⟨rfl, h2⟩ := h
      exact .cmp (sE_notB (okE_ok a sc _ h2).1) (sT_notB (okE_ok a sc _ h2).1)
    · cases h
  | .neg a, sc, e, h => by
    unfold okE at h
    split at h
    · exact .val (sE_neg (okE_ok a sc _ h).1) rfl
    · cases h
  | .not a, sc, e, h => by
    unfold okE at h
    split at h
    · have ha := okE_ok a sc _ h
      exact ⟨sE_not (m := fun _ _ => .fail) ha.1, fun ht => (sT_not (ha.2.1 ht)).eq fun ρ S => tst_not, fun _ op vs p q => by cases q⟩
    · cases h
  | .and a b, sc, e, h => by
    unfold okE at h
    split at h
    · rw [Bool.and_eq_true] at h
      exact and2 (okE_ok a sc _ h.1) (okE_ok b sc _ h.2)
    · rw [Bool.and_eq_true] at h
      exact andN (okE_ok a sc _ h.1) (okE_ok b sc _ h.2)
    · cases h
  | .or a b, sc, e, h => by
    unfold okE at h
    split at h
    · rw [Bool.and_eq_true] at h
      exact or2 (okE_ok a sc _ h.1) (okE_ok b sc _ h.2)
    · rw [Bool.and_eq_true] at h
      exact orN (okE_ok a sc _ h.1) (okE_ok b sc _ h.2)
    · cases h
  | .ite c a b, sc, e, h => by
    unfold okE at h
    split at h
    · simp only [Bool.and_eq_true] at h
      obtain ⟨⟨⟨h1, h2⟩, h3⟩, h4⟩ := h
      exact ⟨sE_ite ((okE_ok c sc _ h2).2.1 h1) (okE_ok a sc _ h3).1 (okE_ok b sc _ h4).1 (fun _ _ => rfl), fun ht => (by cases ht), fun ht => (by cases ht)⟩
    · cases h
  | .comp elt tg it ifs own, sc, e, h => by
    unfold okE at h
    split at h
    · simp only [Bool.and_eq_true, decide_eq_true_eq] at h
      obtain ⟨⟨⟨⟨⟨⟨⟨rfl, h2⟩, h3⟩, h4⟩, h5⟩, h6⟩, h7⟩, h8⟩ := h
      refine .val ?_ rfl
      rw [← ownL_snd (N := N) (own := own)]
      exact sE_comp (own := ownL N own) (okI_ok it sc _ _ h6) (okF_ok ifs _ _ h7) (okE_ok elt _ _ h8).1 (by rw [ownL_snd]; exact h2) h3 h4 (nse h5)
    · cases h
  | .comp2 elt tg it tg2 it2 ifs own own2, sc, e, h => by
    unfold okE at h
    split at h
    · simp only [Bool.and_eq_true, decide_eq_true_eq] at h
      obtain ⟨⟨⟨⟨⟨⟨⟨⟨⟨⟨⟨⟨⟨rfl, rfl⟩, h2⟩, h3⟩, h4⟩, h5⟩, h6⟩, h7⟩, h8⟩, h9⟩, h10⟩, h11⟩, h12⟩, h13⟩ := h
      refine .val ?_ rfl
      rw [← ownL_snd (N := N) (own := own)]
      exact sE_comp2 (own := ownL N own) (okI_ok it sc _ _ h10) (okI_ok it2 _ _ _ h11) (okF_ok ifs _ _ h12) (okE_ok elt _ _ h13).1 (by rw [ownL_snd]; exact h2) h3 (by rw [ownL_snd]; exact h4) h5 h6 h7 (nse h8) (nse h9)
    · cases h
  | .sub a i, sc, e, h => by
    unfold okE at h
    split at h
    · simp only [Bool.and_eq_true] at h
      exact .val (sE_sub (okE_ok a sc _ h.1.2).1 (okE_ok i sc _ h.2).1 (nsl h.1.1)) rfl
    · cases h
  | .slice a lo hi, sc, e, h => by
    unfold okE at h
    split at h
    · simp only [Bool.and_eq_true] at h
      exact .val (sE_slice (okE_ok a sc _ h.1.1).1 (okP_ok lo sc _ h.1.2) (okP_ok hi sc _ h.2)) rfl
    · cases h
  | .rev a, sc, e, h => by
    unfold okE at h
    split at h
    · simp only [Bool.and_eq_true, decide_eq_true_eq] at h
      obtain ⟨rfl, h2⟩ := h
      exact .val (sE_rev (okE_ok a sc _ h2).1) rfl
    · cases h
  | .fld c k a, sc, e, h => by
    unfold okE at h
    split at h
    · simp only [Bool.and_eq_true, decide_eq_true_eq] at h
      obtain ⟨⟨⟨h1, h2⟩, h3⟩, h4⟩ := h
      exact .val (sE_fld (okE_ok a sc _ h4).1 (by rw [hck.obs]; exact h1) (by rw [hck.nms]; exact h2) h3) rfl
    · cases h
  | .prop c f a, sc, e, h => by
    unfold okE at h
    split at h
    · simp only [Bool.and_eq_true, decide_eq_true_eq] at h
      obtain ⟨⟨⟨h1, h2⟩, h3⟩, h4⟩ := h
      exact .val (sE_prop (okE_ok a sc _ h4).1 (by rw [hck.prs]; exact memM_ok h1) (fd_of hck h2) h3) rfl
    · cases h
  | .pop a, sc, e, h => by
    unfold okE at h
    split at h
    · simp only [Bool.and_eq_true, decide_eq_true_eq] at h
      obtain ⟨⟨⟨rfl, h2⟩, h3⟩, h4⟩ := h
      exact .val (sE_pop (okE_ok a sc _ h4).1 h2 h3) rfl
    · cases h
  | .popAt a i, sc, e, h => by
    unfold okE at h
    split at h
    · simp only [Bool.and_eq_true, decide_eq_true_eq] at h
      obtain ⟨⟨⟨⟨⟨rfl, h2⟩, h3⟩, h4⟩, h5⟩, h6⟩ := h
      exact .val (sE_popAt (okE_ok a sc _ h5).1 (okE_ok i sc _ h6).1 h2 (nst h3) h4) rfl
    · cases h
  | .app a b, sc, e, h => by
    unfold okE at h
    split at h
    · simp only [Bool.and_eq_true, decide_eq_true_eq] at h
      obtain ⟨⟨⟨⟨⟨rfl, h2⟩, h3⟩, h4⟩, h5⟩, h6⟩ := h
      exact .val (sE_app (okE_ok a sc _ h5).1 (okE_ok b sc _ h6).1 h2 (nst h3) h4) rfl
    · cases h
  | .ext a b, sc, e, h => by
    unfold okE at h
    split at h
    · simp only [Bool.and_eq_true, decide_eq_true_eq] at h
      obtain ⟨⟨⟨⟨⟨rfl, h2⟩, h3⟩, h4⟩, h5⟩, h6⟩ := h
      exact .val (sE_ext (okE_ok a sc _ h5).1 (okE_ok b sc _ h6).1 h2 (nst h3) h4) rfl
    · cases h
  | .meth _ _ _ _, sc, e, h => by unfold okE at h; cases h
  | .fstr _ _, sc, e, h => by unfold okE at h; cases h
  | .lrange a, sc, e, h => by
    unfold okE at h
    split at h
    · simp only [Bool.and_eq_true, decide_eq_true_eq] at h
      obtain ⟨⟨⟨⟨⟨rfl, rfl⟩, h3⟩, h4⟩, h5⟩, h6⟩ := h
      exact .val (sE_lrange (okE_ok a sc _ h6).1 (nst h3) (gl_of h4) (gl_of h5)) rfl
    · cases h
  | .dnew es, sc, e, h => by
    unfold okE at h
    split at h
    · exact .val sE_dnew0 rfl
    · cases h
  | .dset _ _ _, sc, e, h => by unfold okE at h; cases h
  | .dkeys _, sc, e, h => by unfold okE at h; cases h
  | .xmk _ _, sc, e, h => by unfold okE at h; cases h
  | .xfld _ _, sc, e, h => by unfold okE at h; cases h
theorem okEs_ok : ∀ (Es : MI.Es) (sc : Scope) (xs : List Expr), okEs ck N Es sc xs = true → AOk I n N sc xs Es
  | .nil, sc, xs, h => by
    unfold okEs at h
    split at h
    · exact ⟨sA_nil, fun a q => by cases q⟩
    · cases h
  | .cons star a r, sc, xs, h => by
    unfold okEs at h
    split at h
    · split at h
      · simp only [Bool.and_eq_true] at h
        refine ⟨sA_cons (okE_ok a sc _ h.1.2).1 (okEs_ok r sc _ h.2).1 (nst h.1.1), fun x q hs => ?_⟩
        cases q
        cases r with
        | nil => exact ⟨a, rfl, (okE_ok a sc _ h.1.2).1⟩
        | cons s b r => have := h.2; unfold okEs at this; cases this
      · split at h
        · simp only [Bool.and_eq_true] at h
          refine ⟨sA_star (okE_ok a sc _ h.1).1 (okEs_ok r sc _ h.2).1, fun x q hs => ?_⟩
          cases q
          cases hs
        · cases h
    · cases h
theorem okI_ok : ∀ (IT : MI.I) (sc : Scope) (t x : Expr), okI ck N IT sc t x = true → SoundI I n N sc t x IT
  | .e a, sc, t, x, h => by
    unfold okI at h
    exact sI_e (okE_ok a sc _ h).1
  | .range1 a, sc, t, x, h => by
    unfold okI at h
    split at h
    · simp only [Bool.and_eq_true, decide_eq_true_eq] at h
      obtain ⟨⟨⟨rfl, h2⟩, h3⟩, h4⟩ := h
      exact sI_range1 (okE_ok a sc _ h4).1 (nst h2) (gl_of h3)
    · cases h
  | .range2 a b, sc, t, x, h => by
    unfold okI at h
    split at h
    · simp only [Bool.and_eq_true, decide_eq_true_eq] at h
      obtain ⟨⟨⟨⟨⟨rfl, h2⟩, h3⟩, h4⟩, h5⟩, h6⟩ := h
      exact sI_range2 (okE_ok a sc _ h5).1 (okE_ok b sc _ h6).1 (nst h2) (nst h3) (gl_of h4)
    · cases h
  | .enum a, sc, t, x, h => by
    unfold okI at h
    split at h
    · simp only [Bool.and_eq_true, decide_eq_true_eq] at h
      obtain ⟨⟨⟨rfl, h2⟩, h3⟩, h4⟩ := h
      exact sI_enum (okE_ok a sc _ h4).1 (nst h2) (gl_of h3)
    · cases h
  | .zip a b, sc, t, x, h => by
    unfold okI at h
    split at h
    · simp only [Bool.and_eq_true, decide_eq_true_eq] at h
      obtain ⟨⟨⟨⟨⟨rfl, h2⟩, h3⟩, h4⟩, h5⟩, h6⟩ := h
      exact sI_zip (okE_ok a sc _ h5).1 (okE_ok b sc _ h6).1 (nst h2) (nst h3) (gl_of h4)
    · cases h
theorem okP_ok : ∀ (o : MI.O) (sc : Scope) (x : Option Expr), okP ck N o sc x = true → SoundP I n N sc x o
  | .no, sc, x, h => by
    unfold okP at h
    split at h
    · exact sP_none
    · cases h
  | .yes a, sc, x, h => by
    unfold okP at h
    split at h
    · exact sP_some (okE_ok a sc _ h).1
    · cases h
theorem okF_ok : ∀ (o : MI.O) (sc : Scope) (x : List Expr), okF ck N o sc x = true → SoundO I n N sc x o
  | .no, sc, x, h => by
    unfold okF at h
    split at h
    · exact sO_no
    · cases h
  | .yes a, sc, x, h => by
    unfold okF at h
    split at h
    · rw [Bool.and_eq_true] at h
      exact sO_yes ((okE_ok a sc _ h.2).2.1 h.1)
    · cases h
end
end
end MI
set_option linter.all false
set_option Elab.async false
set_option maxRecDepth 100000
set_option maxHeartbeats 1000000
namespace MI
open PySem PySem.Spec PyProof.Rows L2
/-! ### try: .. except X: .. -/
def kdB (k : Const) (d : D) : Bool := match kD k with
  | some e => e.beq d
  | none => false
def haB (N : List Str) (sc : Scope) : Ha → Stmt → Bool
  | .set i (.k d), st => (match st with
    | .Assign [.Name y _] (.Constant k _ _) _ => locB N sc i y && kdB k d
    | _ => false)
  | .set i (.inc j), st => (match st with
    | .Assign [.Name y _] (.BinOp (.Name z _) .Add (.Constant (.int 1) _ _) _) _ => locB N sc i y && decide (N[j]? = some z) && visB sc z && noDbg z && !(z == ("__classdict__" : Str))
    | _ => false)
  | .app i (.k d), st => (match st with
    | .Expr (.Call (.Attribute (.Name y _) f apos) [.Constant k _ _] [] pos) _ => decide (f = ("append" : Str)) && decide (N[i]? = some y) && visB sc y && noDbg y && !(y == ("__classdict__" : Str)) && kdB k d && (apos.endLine == pos.line)
    | _ => false)
  | _, _ => false
def hdsB (ck : Ck) (N : List Str) (sc : Scope) : List Hd → List ExceptHandler → Bool
  | [], [] => true
  | h :: hs, e :: es => (match e with
    | .ExceptHandler (some (.Name x _)) none [st] _ => decide (ck.cnm[h.cls]? = some x) && glB sc x && noDbg x && (decide (h.cls ∈ ck.e0) || decide (h.cls ∈ ck.e1)) && h.nm.isNone && haB N sc h.ha st
    | _ => false) && hdsB ck N sc hs es
  | _, _ => false
theorem kdB_ok {k : Const} {d : D} (h : kdB k d = true) : kD k = some d := by
  unfold kdB at h
  split at h
  · rename_i e he
    rw [he, D.beq_eq _ _ h]
  · cases h
section
variable {I : Info} {n : Nat} {N : List Str} {sc : Scope} {ck : Ck} {X : Cx} {W : WX} {ρ : Rho} {S : Sto} {as : List Addr} {σ : L2.St} {H : Hp} {DE : Ends} {st : Stmt}
theorem wp_k {X : Cx} {k : Const} {d : D} {j : Nat} {pos : Pos} {Q : VK} (h : kD k = some d) (q : ∀ v, (∀ ct as, rel X.K ct as H d v) → Q v H) : wpE X (.Constant k j pos) σ H Q := by
  cases k <;> first
    | (cases h; done)
    | (cases h; exact PE.wp pe_int (q _ fun _ _ => by unfold rel; rfl))
    | (cases h; exact PE.wp pe_bl (q _ fun _ _ => by unfold rel; rfl))
    | (cases h; exact PE.wp pe_non (q _ fun _ _ => by unfold rel; rfl))
    | (cases h; exact PE.wp pe_str (q _ fun _ _ => by unfold rel; simp))
/-- a clause's suite -/
theorem ha_ok (hc : Cs I n N sc X W) {fs : List D} {ha : Ha} {a : Addr} {pn : List (Addr × Obj)} (hb : haB N sc ha st = true) (he : EnvOk X.K I.ct as H ρ σ) (hs : SRel X.K I.ct as H S)
    (g : GoodX X.K I.ct W as H DE (match haX fs ρ S ha with
      | .nx ρ1 S1 => .nx ρ1 S1
      | _ => .fail)) : wpSs (X.suite a pn) [st] DE σ H := by
  cases ha with
  | set i x =>
    cases x with
    | k d =>
      unfold haB at hb
      dsimp only at hb
      split at hb
      · rename_i y p k j q pos
        rw [Bool.and_eq_true] at hb
        obtain ⟨h1, h2, h3, h4⟩ := loc_of hc hb.1
        refine (pss_cons (ps_set (X := X.suite a pn) h1 h2 h3 (pe_wp (X := X.suite a pn) (e := .Constant k j q)) (swaps_plain rfl) (.inl h4)) pss_nil).wp ?_
        refine wp_k (X := X.suite a pn) (kdB_ok hb.2) fun v r => ?_
        exact g as _ H .refl (he.set (rv := .d d) (r I.ct as)) hs
      · cases hb
    | inc j =>
      unfold haB at hb
      dsimp only at hb
      split at hb
      · rename_i y p z p2 jj q q2 pos
        simp only [Bool.and_eq_true, decide_eq_true_eq, Bool.not_eq_true'] at hb
        obtain ⟨⟨⟨⟨b1, b2⟩, b3⟩, b4⟩, b5⟩ := hb
        obtain ⟨h1, h2, h3, h4⟩ := loc_of hc b1
        have hN : X.N[j]? = some z := by rw [hc.cn.hN]; exact b2
        have hv : visB X.env.scope z = true := by rw [hc.cn.hsc]; exact b3
        refine (pss_cons (ps_set (X := X.suite a pn) h1 h2 h3 (pe_add (pe_var (X := X.suite a pn) (i := j) hN (vis_of hv) (dbg_of b4) b5) (pe_int (X := X.suite a pn))) (swaps_plain rfl) (.inl h4)) pss_nil).wp ?_
        unfold haX hxV at g
        dsimp only at g
        cases hj : ρ[j]? with
        | none => rw [hj] at g; exact g.elim
        | some o =>
          rw [hj] at g
          cases o with
          | none => exact g.elim
          | some rv =>
            cases rv with
            | d d =>
              cases d with
              | int m =>
                obtain ⟨u, e1, e2⟩ := he.at_ j _ hj
                have e2' : rel X.K I.ct as H (.int m) u := e2
                unfold rel at e2'
                subst e2'
                exact ⟨_, e1, m, 1, rfl, rfl, g as _ H .refl (he.set (rv := .d (.int (m + 1))) (show rel X.K I.ct as H (.int (m + 1)) _ by unfold rel; rfl)) hs⟩
              | _ => exact g.elim
            | _ => exact g.elim
      · cases hb
    | _ => unfold haB at hb; cases hb
  | app i x =>
    cases x with
    | k d =>
      unfold haB at hb
      dsimp only at hb
      split at hb
      · rename_i y p f apos k j q pos p2
        simp only [Bool.and_eq_true, decide_eq_true_eq, Bool.not_eq_true'] at hb
        obtain ⟨⟨⟨⟨⟨⟨rfl, b2⟩, b3⟩, b4⟩, b5⟩, b6⟩, b7⟩ := hb
        have hN : X.N[i]? = some y := by rw [hc.cn.hN]; exact b2
        have hv : visB X.env.scope y = true := by rw [hc.cn.hsc]; exact b3
        unfold haX hxV at g
        dsimp only at g
        refine (pss_cons (ps_expr (X := X.suite a pn) (pe_bm (X := X.suite a pn) PySem.F.plainAttrs_list PySem.F.slot_list_append PySem.F.type_list_append mt_append (pe_var (X := X.suite a pn) (i := i) hN (vis_of hv) (dbg_of b4) b5) (pa_cons (pe_wp (X := X.suite a pn) (e := .Constant k j q)) pa_nil (star_plain rfl)) (attr_plain rfl) (bm_few rfl) b7 (star_plain rfl) rfl) (swaps_plain rfl)) pss_nil).wp ?_
        cases hj : ρ[i]? with
        | none => rw [hj] at g; exact g.elim
        | some o =>
          rw [hj] at g
          cases o with
          | none => exact g.elim
          | some rv =>
            cases rv with
            | r m =>
              dsimp only at g
              cases hap : appC S m [d] with
              | ok rv2 S' =>
                rw [hap] at g
                obtain ⟨xs, h1, h2, rfl, rfl⟩ := appC_of hap
                obtain ⟨u, e1, e2⟩ := he.at_ i _ hj
                obtain ⟨l, vs, rfl, f1, f2, f3⟩ := cell_lst hs e2 h1
                refine ⟨_, e1, tyV_list f2, ?_⟩
                refine wp_k (X := X.suite a pn) (kdB_ok b6) fun v r => ?_
                obtain ⟨k3, s3⟩ := cell_set (xs := xs ++ [d]) hs f1 (f3.append (rels.cons (r I.ct as) rels.nil))
                refine ⟨l, vs, v, rfl, rfl, f2, ?_, g as _ _ (.keep k3) (he.keep k3) s3⟩
                rw [← f3.length, ← lim_eq]
                exact h2
              | exc c fs S' => exact (appC_noexc hap).elim
              | fail => rw [hap] at g; exact g.elim
            | _ => exact g.elim
      · cases hb
    | _ => unfold haB at hb; cases hb
/-- what the clauses wish, in the kit's words -/
def hdL (X : Cx) (ct : CT) : List Hd → List ExceptHandler → List (Value × (Addr → Value → Option Addr → TS))
  | h :: hs, .ExceptHandler _ _ suite _ :: es => (.ref (ct.adr h.cls), fun a _ _ => fun DE σ H => ∀ pn : List (Addr × Obj), wpSs (X.suite a pn) suite DE σ H) :: hdL X ct hs es
  | _, _ => []
theorem hds_ok (hck : CkOk I ck) (hc : Cs I n N sc X W) : ∀ {hs : List Hd} {es : List ExceptHandler}, hdsB ck N sc hs es = true → HdsOk X es (hdL X I.ct hs es)
  | [], [], _ => .nil
  | [], _ :: _, h => by unfold hdsB at h; cases h
  | _ :: _, [], h => by unfold hdsB at h; cases h
  | h :: hs, e :: es, hb => by
    unfold hdsB at hb
    rw [Bool.and_eq_true] at hb
    obtain ⟨hb, hr⟩ := hb
    split at hb
    · rename_i x p st q
      simp only [Bool.and_eq_true, decide_eq_true_eq] at hb
      obtain ⟨⟨⟨⟨⟨b1, b2⟩, b3⟩, b4⟩, b5⟩, b6⟩ := hb
      have hm : X.mg x = some (.ref (I.ct.adr h.cls)) := hc.cn.ws.cn _ x (by rw [hck.cnm]; exact b1)
      unfold hdL
      refine .cons ⟨?_, dbg_of b3, .inl hm⟩ (fun a oe cls d pn _ _ => ⟨fun pins s σ H DE I1 q => (pss_wp (X := X.suite a ((a, oe) :: pn))).run pins s σ H DE I1 (q _)⟩) (hds_ok hck hc hr)
      show X.env.scope.names.lookup x = _
      rw [hc.cn.hsc]
      exact gl_of b2
    · cases hb
theorem catch_ok (hck : CkOk I ck) (hc : Cs I n N sc X W) {c : Nat} {fs : List D} {cls : Value} {dd : Option Addr} (hi : c < I.T.init.length) (hcc : I.T.sub c c = true) (he : EnvOk X.K I.ct as H ρ σ) (hs : SRel X.K I.ct as H S) (xr : xrel X.K I.ct as H c fs cls dd) :
    ∀ {hds : List Hd} {es : List ExceptHandler}, hdsB ck N sc hds es = true → GoodX X.K I.ct W as H DE (catchX I.T.sub c fs ρ S hds) → wMany X.K W DE (hdL X I.ct hds es) cls dd σ H
  | [], [], _, g => g as σ H cls dd .refl he hs xr
  | [], _ :: _, h, _ => by unfold hdsB at h; cases h
  | _ :: _, [], h, _ => by unfold hdsB at h; cases h
  | h :: hds, e :: es, hb, g => by
    have hb0 := hb
    unfold hdsB at hb
    rw [Bool.and_eq_true] at hb
    obtain ⟨hb, hr⟩ := hb
    split at hb
    · rename_i x p st q
      simp only [Bool.and_eq_true, decide_eq_true_eq, Bool.or_eq_true] at hb
      obtain ⟨⟨⟨⟨⟨b1, b2⟩, b3⟩, b4⟩, b5⟩, b6⟩ := hb
      obtain ⟨rfl, _⟩ := id xr
      have hmem : h.cls ∈ I.e0 ++ I.e1 := by
        rw [hck.e0, hck.e1]
        exact List.mem_append.mpr b4
      unfold catchX at g
      unfold hdL
      refine ⟨I.T.sub c h.cls, hc.cn.ws.xx c hi hcc _ hmem, fun hy a ha => ?_, fun hn => ?_⟩
      · rw [if_pos hy] at g
        intro pn
        refine ha_ok (ρ := ρ) (S := S) (fs := fs) hc b6 he hs ?_
        have hnm : h.nm = none := by simpa using b5
        rw [hnm] at g
        cases hx : haX fs ρ S h.ha with
        | nx ρ1 S1 => rw [hx] at g; exact g
        | _ => rw [hx] at g; exact g
      · rw [if_neg (by rw [hn]; simp)] at g
        exact catch_ok hck hc hi hcc he hs xr hr g
    · cases hb
theorem Cs.tr {pn : List (Addr × Obj)} {xe : Value → Shared → Prop} {W' : WX} (hc : Cs I n N sc X W) (tk : Takes (X.tr pn xe) W') (po : PassesOwn (model X.prog X.w) X.A X.env xe) : Cs I n N sc (X.tr pn xe) W' where
  cn := { wf := hc.cn.wf, ws := hc.cn.ws, hN := hc.cn.hN, hsc := hc.cn.hsc, calm := hc.cn.calm, nd := hc.cn.nd, tk := tk, room := hc.cn.room }
  fn := hc.fn
  own := po
  stack := hc.stack
  frame := hc.frame
theorem sS_try (hck : CkOk I ck) {body : List Stmt} {b : Ss} {hds : List Hd} {e0 : ExceptHandler} {es : List ExceptHandler} {pos : Pos} (hb : SoundSs I n N sc body b) (hh : hdsB ck N sc hds (e0 :: es) = true) : SoundS I n N sc (.Try body (e0 :: es) [] [] pos) (.try_ b hds) := by
  intro X W hc ρ S as σ H DE he hs g
  refine (ps_try_many (X := X) (Wout := W) (tb := fun W' DE σ H => ∀ (pn : List (Addr × Obj)) (xe : Value → Shared → Prop), Takes (X.tr pn xe) W' → PassesOwn (model X.prog X.w) X.A X.env xe → wpSs (X.tr pn xe) body DE σ H) hc.stack hc.frame hc.cn.tk
    (fun W' pn xe tk po => ⟨fun pins s σ H DE I1 q => (pss_wp (X := X.tr pn xe)).run pins s σ H DE I1 (q pn xe tk po)⟩) (hds_ok hck hc hh)).wp ?_
  intro pn xe tk po
  refine hb (X.tr pn xe) _ (hc.tr tk po) ρ S as σ H DE he hs ?_
  unfold ex at g
  show GoodX X.K I.ct (wMany X.K W DE (hdL X I.ct hds (e0 :: es))) as H DE (exs (I.g n) b ρ S)
  cases hm : exs (I.g n) b ρ S with
  | nx ρ1 S1 => rw [hm] at g; exact g
  | ret v S1 => rw [hm] at g; exact g
  | fail => rw [hm] at g; exact g
  | exc c fs ρ1 S1 =>
    rw [hm] at g
    dsimp only at g
    intro as' σ' H' cls d x he' hs' xr
    split at g
    · rename_i hg
      rw [Bool.and_eq_true, decide_eq_true_eq] at hg
      exact catch_ok hck hc hg.1 hg.2 he' hs' xr hh (g.shift x)
    · exact g.elim
end
end MI
set_option linter.all false
set_option Elab.async false
set_option maxRecDepth 100000
set_option maxHeartbeats 4000000
namespace MI
open PySem PySem.Spec PyProof.Rows L2
/-! ### the check of statements -/
def isBad : MI.S → Bool
  | .bad => true
  | _ => false
def isFn (sc : Scope) : Bool := match sc.kind with
  | .function => true
  | _ => false
def isCE : MI.E → Bool
  | .comp .. => true
  | .comp2 .. => true
  | _ => false
/-- how two names are stored -/
def parB (N : List Str) (sc : Scope) (i j : Nat) (x y : Str) (o : Option (Option (List Str))) : Bool := match o with
  | some (some [x', y']) => decide (x' = x) && decide (y' = y) && decide (N[i]? = some x) && decide (N[j]? = some y) && decide (sc.names.lookup x = some .local) && decide (sc.names.lookup y = some .local) && decide (i ≠ j)
  | some none => locB N sc i x && locB N sc j y
  | _ => false
def par3B (N : List Str) (sc : Scope) (i j k : Nat) (x y z : Str) (o : Option (Option (List Str))) : Bool := match o with
  | some (some [x', y', z']) => decide (x' = x) && decide (y' = y) && decide (z' = z) && decide (N[i]? = some x) && decide (N[j]? = some y) && decide (N[k]? = some z) && decide (sc.names.lookup x = some .local) && decide (sc.names.lookup y = some .local) && decide (sc.names.lookup z = some .local) && decide (i ≠ j) && decide (i ≠ k) && decide (j ≠ k)
  | _ => false
def isNone2 : Option (Option (List Str)) → Bool
  | some none => true
  | _ => false
mutual
def okS (ck : Ck) (N : List Str) : MI.S → Scope → Stmt → Bool
  | .set i box E, sc, st => (match st with
    | .Assign [.Name x _] e _ => locB N sc i x && okE ck N E sc e && (!isLC e || (isFn sc && isCE E))
    | _ => false)
  | .unp is E, sc, st => (match st with
    | .Assign [.Tuple es _ _] e _ => namesB N sc is es && !isTup e && okE ck N E sc e
    | _ => false)
  | .par i bi j bj a b, sc, st => (match st with
    | .Assign [.Tuple [.Name x px, .Name y py] kk p3] (.Tuple [u, v] k2 p2) _ => parB N sc i j x y (pureOf (swappedStores [.Tuple [.Name x px, .Name y py] kk p3] (.Tuple [u, v] k2 p2) (env0 sc))) && !isStar u && !isStar v && okE ck N a sc u && okE ck N b sc v
    | _ => false)
  | .par3 i bi j bj k bk a b c, sc, st => (match st with
    | .Assign [.Tuple [.Name x px, .Name y py, .Name z pz] kk p3] (.Tuple [u, v, w] k2 p2) _ => par3B N sc i j k x y z (pureOf (swappedStores [.Tuple [.Name x px, .Name y py, .Name z pz] kk p3] (.Tuple [u, v, w] k2 p2) (env0 sc))) && !isStar u && !isStar v && !isStar w && okE ck N a sc u && okE ck N b sc v && okE ck N c sc w
    | _ => false)
  | .setItem o i e, sc, st => (match st with
    | .Assign [.Subscript x y _] v _ => !isLC v && !isTup v && !isSlice y && okE ck N o sc x && okE ck N i sc y && okE ck N e sc v
    | _ => false)
  | .parItem o i o2 i2 a b, sc, st => (match st with
    | .Assign [.Tuple [.Subscript x y p, .Subscript x2 y2 q] kk p3] (.Tuple [u, v] k2 p2) _ => isNone2 (pureOf (swappedStores [.Tuple [.Subscript x y p, .Subscript x2 y2 q] kk p3] (.Tuple [u, v] k2 p2) (env0 sc))) && !isStar u && !isStar v && !isSlice y && !isSlice y2 &&
        okE ck N o sc x && okE ck N i sc y && okE ck N o2 sc x2 && okE ck N i2 sc y2 && okE ck N a sc u && okE ck N b sc v
    | _ => false)
  | .setFld c k o e, sc, st => (match st with
    | .Assign [.Attribute x f _] v _ => decide (c ∈ ck.obs) && decide ((ck.nms c)[k]? = some f) && !isLC v && okE ck N o sc x && okE ck N e sc v
    | _ => false)
  | .ex e, sc, st => (match st with
    | .Expr x _ => !isLC x && okE ck N e sc x
    | _ => false)
  | .ite c a b, sc, st => (match st with
    | .If x as bs _ => tE c && okE ck N c sc x && okSs ck N a sc as && okSs ck N b sc bs
    | _ => false)
  | .for_ tg it b, sc, st => (match st with
    | .For t i bs [] _ => tgB N sc t tg && !isSet i && okI ck N it sc t i && okSs ck N b sc bs
    | _ => false)
  | .while_ c b, sc, st => (match st with
    | .While x bs [] _ => tE c && okE ck N c sc x && okSs ck N b sc bs
    | _ => false)
  | .ret e, sc, st => (match st with
    | .Return (some x) _ => okE ck N e sc x
    | _ => false)
  | .retN, _, st => (match st with
    | .Return none _ => true
    | _ => false)
  | .raise c es, sc, st => (match st with
    | .Raise (some (.Call (.Name x _) xs [] _)) none _ => decide (ck.cnm[c]? = some x) && glB sc x && noDbg x && (match xs, es with
      | [], .nil => decide (c ∈ ck.e0)
      | y :: ys, es => decide (c ∈ ck.e1) && noStars (y :: ys) && decide (lenEs es = some (ck.nms c).length) && okEs ck N es sc (y :: ys)
      | _, _ => false)
    | _ => false)
  | .pass, _, st => (match st with
    | .Pass _ => true
    | _ => false)
  | .try_ b hs, sc, st => (match st with
    | .Try body (h :: es) [] [] _ => okSs ck N b sc body && hdsB ck N sc hs (h :: es)
    | _ => false)
  | .bad, _, _ => true
def okSs (ck : Ck) (N : List Str) : Ss → Scope → List Stmt → Bool
  | .nil, _, sts => (match sts with
    | [] => true
    | _ => false)
  | .cons s r, sc, sts => isBad s || (match sts with
    | st :: sts => okS ck N s sc st && okSs ck N r sc sts
    | [] => false)
end
section
variable {I : Info} {n : Nat} {N : List Str} {sc : Scope} {ck : Ck} {e a b c : Expr} {A B C : E} {p pos : Pos}
theorem nlc {e : Expr} (h : (!isLC e) = true) : isLC e = false := by simpa using h
theorem ntp {e : Expr} (h : (!isTup e) = true) : isTup e = false := by simpa using h
theorem fn_kind (h : isFn sc = true) : sc.kind = .function := by
  unfold isFn at h
  split at h
  · assumption
  · cases h
theorem sSs_bad {sts : List Stmt} {r : Ss} {s : MI.S} (h : isBad s = true) : SoundSs I n N sc sts (.cons s r) := by
  cases s <;> first | (cases h; done) | skip
  intro X W hc ρ S as σ H D he hs g
  unfold exs ex at g
  exact g.elim
variable (hy : Hyp I n) (hdi : DictIn I n) (hd : DictPut I) (hck : CkOk I ck)
include hy hdi hck
theorem setLc_ok {i : Nat} {box : Bool} {x : Str} (E : MI.E) (hce : isCE E = true) (hx : locB N sc i x = true) (hk : sc.kind = .function) (h : okE ck N E sc e = true) : SoundS I n N sc (.Assign [.Name x p] e pos) (.set i box E) := by
  cases E <;> first | (cases hce; done) | skip
  · rename_i elt tg it ifs own
    unfold okE at h
    split at h
    · simp only [Bool.and_eq_true, decide_eq_true_eq] at h
      obtain ⟨⟨⟨⟨⟨⟨⟨rfl, h2⟩, h3⟩, h4⟩, h5⟩, h6⟩, h7⟩, h8⟩ := h
      rw [← ownL_snd (N := N) (own := own)]
      exact sS_setLc (own := ownL N own) hx hk (okI_ok hy hdi hck it sc _ _ h6) (okF_ok hy hdi hck ifs _ _ h7) (okE_ok hy hdi hck elt _ _ h8).1 (by rw [ownL_snd]; exact h2) h3 h4 (nse h5)
    · cases h
  · rename_i elt tg it tg2 it2 ifs own own2
    unfold okE at h
    split at h
    · simp only [Bool.and_eq_true, decide_eq_true_eq] at h
      obtain ⟨⟨⟨⟨⟨⟨⟨⟨⟨⟨⟨⟨⟨rfl, rfl⟩, h2⟩, h3⟩, h4⟩, h5⟩, h6⟩, h7⟩, h8⟩, h9⟩, h10⟩, h11⟩, h12⟩, h13⟩ := h
      rw [← ownL_snd (N := N) (own := own)]
      exact sS_setLc2 (own := ownL N own) hx hk (okI_ok hy hdi hck it sc _ _ h10) (okI_ok hy hdi hck it2 _ _ _ h11) (okF_ok hy hdi hck ifs _ _ h12) (okE_ok hy hdi hck elt _ _ h13).1 (by rw [ownL_snd]; exact h2) h3 (by rw [ownL_snd]; exact h4) h5 h6 h7 (nse h8) (nse h9)
    · cases h
include hd
mutual
theorem okS_ok : ∀ (s : MI.S) (sc : Scope) (st : Stmt), okS ck N s sc st = true → SoundS I n N sc st s
  | .set i box E, sc, st, h => by
    unfold okS at h
    split at h
    · rename_i x p e pos
      simp only [Bool.and_eq_true, Bool.or_eq_true] at h
      obtain ⟨⟨h1, h2⟩, h3⟩ := h
      by_cases hl : isLC e = true
      · rcases h3 with z | z
        · rw [hl] at z; cases z
        · exact setLc_ok hy hdi hck E z.2 h1 (fn_kind z.1) h2
      · exact sS_set (okE_ok hy hdi hck E sc e h2).1 h1 (by simpa using hl)
    · cases h
  | .unp is E, sc, st, h => by
    unfold okS at h
    split at h
    · simp only [Bool.and_eq_true] at h
      obtain ⟨⟨h1, h3⟩, h4⟩ := h
      exact sS_unp (okE_ok hy hdi hck E sc _ h4).1 h1 (ntp h3)
    · cases h
  | .par i bi j bj a b, sc, st, h => by
    unfold okS at h
    split at h
    · simp only [Bool.and_eq_true] at h
      obtain ⟨⟨⟨⟨h1, h2⟩, h3⟩, h4⟩, h5⟩ := h
      unfold parB at h1
      split at h1
      · rename_i x' y' hw
        simp only [Bool.and_eq_true, decide_eq_true_eq] at h1
        obtain ⟨⟨⟨⟨⟨⟨rfl, rfl⟩, g1⟩, g2⟩, g3⟩, g4⟩, g5⟩ := h1
        exact sS_parS (okE_ok hy hdi hck a sc _ h4).1 (okE_ok hy hdi hck b sc _ h5).1 g1 g2 g3 g4 g5 (nst h2) (nst h3) hw
      · rename_i hw
        rw [Bool.and_eq_true] at h1
        exact sS_parT (okE_ok hy hdi hck a sc _ h4).1 (okE_ok hy hdi hck b sc _ h5).1 h1.1 h1.2 (nst h2) (nst h3) hw
      · cases h1
    · cases h
  | .par3 i bi j bj k bk a b c, sc, st, h => by
    unfold okS at h
    split at h
    · simp only [Bool.and_eq_true] at h
      obtain ⟨⟨⟨⟨⟨⟨h1, h2⟩, h3⟩, h4⟩, h5⟩, h6⟩, h7⟩ := h
      unfold par3B at h1
      split at h1
      · rename_i x' y' z' hw
        simp only [Bool.and_eq_true, decide_eq_true_eq] at h1
        obtain ⟨⟨⟨⟨⟨⟨⟨⟨⟨⟨⟨rfl, rfl⟩, rfl⟩, g1⟩, g2⟩, g3⟩, g4⟩, g5⟩, g6⟩, g7⟩, g8⟩, g9⟩ := h1
        exact sS_par3 (okE_ok hy hdi hck a sc _ h5).1 (okE_ok hy hdi hck b sc _ h6).1 (okE_ok hy hdi hck c sc _ h7).1 g1 g2 g3 g4 g5 g6 g7 g8 g9 (nst h2) (nst h3) (nst h4) hw
      · cases h1
    · cases h
  | .setItem o i e, sc, st, h => by
    unfold okS at h
    split at h
    · simp only [Bool.and_eq_true] at h
      obtain ⟨⟨⟨⟨⟨h1, h2⟩, h3⟩, h4⟩, h5⟩, h6⟩ := h
      exact sS_setItem hd (okE_ok hy hdi hck o sc _ h4).1 (okE_ok hy hdi hck i sc _ h5).1 (okE_ok hy hdi hck e sc _ h6).1 (nlc h1) (ntp h2) (nsl h3)
    · cases h
  | .parItem o i o2 i2 a b, sc, st, h => by
    unfold okS at h
    split at h
    · simp only [Bool.and_eq_true] at h
      obtain ⟨⟨⟨⟨⟨⟨⟨⟨⟨⟨h1, h2⟩, h3⟩, h4⟩, h5⟩, h6⟩, h7⟩, h8⟩, h9⟩, h10⟩, h11⟩ := h
      unfold isNone2 at h1
      split at h1
      · rename_i hw
        exact sS_parItem hd (okE_ok hy hdi hck o sc _ h6).1 (okE_ok hy hdi hck i sc _ h7).1 (okE_ok hy hdi hck o2 sc _ h8).1 (okE_ok hy hdi hck i2 sc _ h9).1 (okE_ok hy hdi hck a sc _ h10).1 (okE_ok hy hdi hck b sc _ h11).1 (nst h2) (nst h3) (nsl h4) (nsl h5) hw
      · cases h1
    · cases h
  | .setFld c k o e, sc, st, h => by
    unfold okS at h
    split at h
    · simp only [Bool.and_eq_true, decide_eq_true_eq] at h
      obtain ⟨⟨⟨⟨h1, h2⟩, h3⟩, h4⟩, h5⟩ := h
      exact sS_setFld (okE_ok hy hdi hck o sc _ h4).1 (okE_ok hy hdi hck e sc _ h5).1 (by rw [hck.obs]; exact h1) (by rw [hck.nms]; exact h2) (nlc h3)
    · cases h
  | .ex e, sc, st, h => by
    unfold okS at h
    split at h
    · rw [Bool.and_eq_true] at h
      exact sS_ex (okE_ok hy hdi hck e sc _ h.2).1 (nlc h.1)
    · cases h
  | .ite c a b, sc, st, h => by
    unfold okS at h
    split at h
    · simp only [Bool.and_eq_true] at h
      obtain ⟨⟨⟨h1, h2⟩, h3⟩, h4⟩ := h
      exact sS_ite ((okE_ok hy hdi hck c sc _ h2).2.1 h1) (okSs_ok a sc _ h3) (okSs_ok b sc _ h4)
    · cases h
  | .for_ tg it b, sc, st, h => by
    unfold okS at h
    split at h
    · simp only [Bool.and_eq_true] at h
      obtain ⟨⟨⟨h1, h2⟩, h3⟩, h4⟩ := h
      exact sS_for (okI_ok hy hdi hck it sc _ _ h3) (okSs_ok b sc _ h4) h1 (nse h2)
    · cases h
  | .while_ c b, sc, st, h => by
    unfold okS at h
    split at h
    · simp only [Bool.and_eq_true] at h
      obtain ⟨⟨h1, h2⟩, h3⟩ := h
      exact sS_while ((okE_ok hy hdi hck c sc _ h2).2.1 h1) (okSs_ok b sc _ h3)
    · cases h
  | .ret e, sc, st, h => by
    unfold okS at h
    split at h
    · exact sS_ret (okE_ok hy hdi hck e sc _ h).1
    · cases h
  | .retN, sc, st, h => by
    unfold okS at h
    split at h
    · exact sS_retN
    · cases h
  | .pass, sc, st, h => by
    unfold okS at h
    split at h
    · exact sS_pass
    · cases h
  | .bad, sc, st, h => sS_bad
  | .raise c es, sc, st, h => by
    unfold okS at h
    split at h
    · rename_i x p xs p2 p3
      simp only [Bool.and_eq_true, decide_eq_true_eq] at h
      obtain ⟨⟨⟨h1, h2⟩, h3⟩, h4⟩ := h
      split at h4
      · exact sS_raise0 (by rw [hck.e0]; exact of_decide_eq_true h4) (by rw [hck.cnm]; exact h1) (gl_of h2) (dbg_of h3)
      · simp only [Bool.and_eq_true, decide_eq_true_eq] at h4
        obtain ⟨⟨⟨g1, g2⟩, g3⟩, g4⟩ := h4
        exact sS_raise1 (by rw [hck.e1]; exact g1) (by rw [hck.cnm]; exact h1) (gl_of h2) (dbg_of h3) (okEs_ok hy hdi hck es sc _ g4).1 g2 (by rw [hck.nms]; exact g3)
      · cases h4
    · cases h
  | .try_ b hs, sc, st, h => by
    unfold okS at h
    split at h
    · rw [Bool.and_eq_true] at h
      exact sS_try hck (okSs_ok b sc _ h.1) h.2
    · cases h
theorem okSs_ok : ∀ (s : Ss) (sc : Scope) (st : List Stmt), okSs ck N s sc st = true → SoundSs I n N sc st s
  | .nil, sc, st, h => by
    unfold okSs at h
    split at h
    · exact sSs_nil
    · cases h
  | .cons s r, sc, st, h => by
    unfold okSs at h
    rw [Bool.or_eq_true] at h
    rcases h with h | h
    · exact sSs_bad h
    · split at h
      · rw [Bool.and_eq_true] at h
        exact sSs_cons (okS_ok s sc _ h.1) (okSs_ok r sc _ h.2)
      · cases h
end
end
end MI
set_option linter.all false
set_option Elab.async false
set_option maxRecDepth 100000
set_option maxHeartbeats 1000000
namespace MI
open PySem PySem.Spec PyProof.Rows L2
/-! ### every def, at every depth -/
structure Facts (I : Info) (ck : Ck) (K : PySem.W.Frag) (mg : Str → Option Value) : Prop where
  defs : ∀ (f : Nat) (fd : Fd), I.T.fds[f]? = some fd → ∃ (x qual : Str) (params : Arguments) (body : List Stmt) (scope : Scope) (N : List Str), FunD K x qual params body scope [] [] (I.fad f) (I.ffd f) ∧ FnScope N (I.fps f) scope ∧ N.length = fd.nn ∧ (I.fps f).length = fd.np ∧ fd.np ≤ fd.nn ∧
    okSs ck N fd.body scope body = true
  bnd : ∀ (f : Nat) (fd : Fd), I.T.fds[f]? = some fd → Binds K (I.ffd f) (I.fps f) []
  gl : ∀ (f : Nat) (x : Str), I.fnm[f]? = some (some x) → mg x = some (.ref (I.fad f)) ∧ PySem.W.keepIn K (.ref (I.fad f)) = true
  bi : ∀ x ∈ biNames, mg x = none
  co : ∀ (i : Nat) (x : Str), I.gnm[i]? = some x → ∃ d u v, I.T.globs[i]? = some d ∧ mg x = some u ∧ RelV v u ∧ ∀ as H, rel K I.ct as H d v
  ck : CkOk I ck
  ws : Ws I K mg
def ErrOk (I : Info) (P : Program) (w : World) (K : PySem.W.Frag) (mg : Str → Option Value) (base : Heap) : Prop := ∀ c ∈ I.e1, OexC K (I.ct.adr c) ∧ ∃ fI fd ps, PySem.W.findIn K (.ref (I.ct.adr c)) "__init__" = some (some (.ref fI)) ∧ PySem.W.typeIn K (.ref fI) = some (.type "function") ∧
  FnOk P w K mg base (L2.CX P w) 1 fI fd ps (spX I.ct c) ∧ Binds K fd ps []
section
variable {I : Info} {ck : Ck} {P : Program} {w : World} {K : PySem.W.Frag} {mg : Str → Option Value} {base : Heap}
theorem wf_all (hy : ∀ n, Hyp I n) (hdi : ∀ n, DictIn I n) (hd : DictPut I) (fa : Facts I ck K mg) (er : ErrOk I P w K mg base) : ∀ n, Wf I P w K mg base n
  | 0 => ⟨fun f fd h => fn_none fun rvs S => rfl, fa.bnd, fa.gl, fa.bi, er, fa.co⟩
  | n + 1 => ⟨fun f fd h => by
      obtain ⟨x, qual, params, body, scope, N, F, S, h1, h2, h3, h4⟩ := fa.defs f fd h
      exact def_ok h F S h1 h2 h3 (wf_all hy hdi hd fa er n) fa.ws (okSs_ok (hy n) (hdi n) hd fa.ck fd.body scope body h4), fa.bnd, fa.gl, fa.bi, er, fa.co⟩
/-- the law's def at a script of ints -/
def script (ns : List Int) : RV := .d (.ro (ns.map .int))
theorem rels_ns {ct : CT} {as : List Addr} {H : Hp} : ∀ ns : List Int, rels K ct as H (ns.map .int) (ns.map V.int)
  | [] => rels.nil
  | n :: ns => rels.cons (by unfold rel; rfl) (rels_ns ns)
theorem law_sp {n f : Nat} {ns : List Int} {a : Addr} {H : Hp} {Q : VK} {E : XK} {S' : Sto} (hS : SqL K H a (ns.map V.int)) (hc : callN I.T n f [script ns] [] = .ok (.d (.bl true)) S') (hQ : ∀ H', Q (.bl true) H') : spM I K n f [.ref a] H Q E := by
  refine ⟨[script ns], [], [], ⟨.ref a, [], rfl, ?_, by unfold vrels; rfl⟩, ⟨List.nodup_nil, rfl, fun i c a h => by simp at h⟩, ?_⟩
  · show rel K I.ct [] H (.ro (ns.map .int)) (.ref a)
    unfold rel
    refine ⟨a, ns.map V.int, rfl, ?_, rels_ns ns⟩
    rcases hS with (h | ⟨o, h⟩) | h
    · exact .inl ⟨by simp, h⟩
    · exact .inr (.inl ⟨by simp, o, h⟩)
    · exact .inr (.inr h)
  · rw [hc]
    intro v H' r
    obtain ⟨k, s, r⟩ := r
    have : v = .bl true := vr_bl r
    subst this
    exact hQ H'
end
end MI
set_option linter.all false
set_option Elab.async false
set_option maxRecDepth 100000
set_option maxHeartbeats 1000000
namespace MI
open PySem PySem.Spec PyProof.Rows L2
/-! ### the built-ins that are left: list, max, min -/
section
variable {I : Info} {n : Nat} {N : List Str} {sc : Scope} {X : Cx} {W : WX} {S : Sto} {as : List Addr} {H : Hp} {Q : VK} {ds : List D} {vs : List V} {rv : RV}
theorem list_ok (r : srels X.K I.ct as H ds vs) (s : SRel X.K I.ct as H S) (e : listF ds = some rv) (q : ResQ X.K I.ct as H Q rv S) : wpC X (.type "list") vs H Q := by
  unfold listF at e
  split at e
  · cases e
    obtain ⟨v, rfl, a, ws, rfl, h, r1⟩ := srels1 r
    exact call_list_of.wp ⟨a, ws, rfl, .inl (SqL.of h), fun p hp => out_new s q r1 hp⟩
  · cases e
    obtain ⟨v, rfl, r1⟩ := srels1 r
    obtain ⟨a, ws, rfl, h, r2⟩ := sr_tup r1
    exact call_list_of.wp ⟨a, ws, rfl, .inr h, fun p hp => out_new s q r2 hp⟩
  · cases e
end
end MI
set_option linter.all false
set_option Elab.async false
set_option maxRecDepth 100000
set_option maxHeartbeats 1000000
namespace MI
open PySem PySem.Spec PyProof.Rows L2
/-! ### errors with an own __init__ that stores its parameters -/
section
variable {P : Program} {w : World} {K : PySem.W.Frag} {mg : Str → Option Value} {base : Heap} {ct : CT} {c : Nat} {x qual f f2 p1 p2 : Str} {params : Arguments} {scope : Scope} {fI : Addr} {fd : FuncData} {a1 a2 a3 a4 a5 a6 a7 a8 : Pos}
theorem init1_ok (F : FunD K x qual params [.Assign [.Attribute (.Name "self" a1) f a2] (.Name p1 a3) a4] scope [] [] fI fd) (S : FnScope ["self", p1] ["self", p1] scope) (O : OexC K (ct.adr c)) (na : PySem.W.findIn K (.ref (ct.adr c)) f = some none) (hn : ct.nms c = [f])
    (hp : (p1 == ("__debug__" : Str)) = false) (hp2 : (p1 == ("__classdict__" : Str)) = false) : FnOk P w K mg base (L2.CX P w) 1 fI fd ["self", p1] (spX ct c) := by
  refine F.ok (k := 0) S (fun vs H Q E ⟨a, ws, e, l, _⟩ => ?_) fun cdv A outer s H vs Q E hr ⟨a, ws, e, l, e1, q⟩ => ⟨_, pss_one (ps_ost (pe_var (i := 0) rfl ?_) (pe_var (i := 1) rfl ?_ hp hp2) rfl), ?_⟩
  · rw [e, List.length_cons, l, hn]; rfl
  · rcases S.par "self" (by simp) with z | z
    · exact .inl z
    · exact .inr (.inl z)
  · rcases S.par p1 (by simp) with z | z
    · exact .inl z
    · exact .inr (.inl z)
  · rw [hn] at l
    match ws, l with
    | [y], _ =>
      subst e
      refine ⟨y, rfl, .ref a, rfl, a, ct.adr c, rfl, O, na, .inl ⟨e1, fun dx hdx hne => ?_⟩⟩
      refine q _ dx [(f, y)] hdx hne upd_same ?_ (fun b h1 h2 => ?_) fun k nm v h1 h2 => ?_
      · rw [upd_ne hne, upd_same]
      · rw [upd_ne h1, upd_ne h2]
      · rw [hn] at h1
        cases k with
        | zero =>
          cases h1
          cases h2
          show List.lookup f [(f, y)] = some y
          simp [List.lookup]
        | succ k => simp at h1
end
end MI
set_option linter.all false
set_option Elab.async false
set_option maxRecDepth 100000
set_option maxHeartbeats 1000000
namespace MI
open PySem PySem.W PyProof.Rows SrtO PySem.SeqAt
/-! ### sorting of data: ints, or tuples of any lengths -/
noncomputable def ltDt (h : Heap) (ds : List PyData) (v u : Value) : Bool := PyProof.Rows.lexLt itemOrd (((dataKind h ds).keyOf v).getD []) (((dataKind h ds).keyOf u).getD [])
theorem swo_dt (h : Heap) (ds : List PyData) : Swo (ltDt h ds) := by
  refine ⟨fun x y q => ?_, fun x y z h1 h2 => ?_⟩
  · cases e : ltDt h ds y x with
    | false => rfl
    | true =>
      have t := lex_trans _ _ _ q e
      have t2 : PyProof.Rows.lexLt itemOrd (((dataKind h ds).keyOf x).getD []) (((dataKind h ds).keyOf x).getD []) = false := lex_irrefl _
      exact absurd (t.symm.trans t2) (by simp)
  · cases e : ltDt h ds z x with
    | false => rfl
    | true =>
      rcases lex_negTrans _ (((dataKind h ds).keyOf y).getD []) _ e with t | t
      · have : ltDt h ds z y = true := t
        rw [h2] at this; cases this
      · have : ltDt h ds y x = true := t
        rw [h1] at this; cases this
theorem lt_dt {h : Heap} {ds : List PyData} (hal : AllAlike ds) {v u : Value} {d d' : PyData} {as bs : List Addr} (m : d ∈ ds) (m' : d' ∈ ds) (r : Reads h v d as) (r' : Reads h u d' bs) : ltDt h ds v u = dataLt d d' := by
  unfold ltDt
  rw [dataKind_some hal m r, dataKind_some hal m' r']
  rfl
/-- all tuples, or none -/
def TupOr (ds : List PyData) : Prop := (∀ d ∈ ds, ∃ xs, d = .tuple xs) ∨ ∀ d ∈ ds, d ≠ .none ∧ ∀ xs, d ≠ .tuple xs
section
variable {prog : Program} {w : World} {A : Around} {E : Value → Shared → Prop} {s : Shared}
theorem call_tuple_lt {Q : Value → Shared → Prop} {l b : Addr} {items items2 : Array Value} {e r : Nat → Bool} (hl : s.heap.IsTuple l items) (hb : s.heap.IsTuple b items2)
    (he : ∀ j (h1 : j < items.size) (h2 : j < items2.size), EqAt A.in1 s items[j] items2[j] (e j)) (hr : ∀ j (h1 : j < items.size) (h2 : j < items2.size), e j = false → RcLt A.in1 s items[j] items2[j] (r j))
    (h : Q (.bool (firstLt e r (decide (items.size < items2.size)) (List.range (min items.size items2.size)))) s) : wpAny (model prog w) A (call (.builtin "tuple.__lt__") [.ref l, .ref b]) Q E s := by
  obtain ⟨⟨cls, dd, data, sl⟩, ho, hc, n, hd⟩ := id hl
  obtain ⟨⟨cls2, dd2, data2, sl2⟩, ho2, hc2, n2, hd2⟩ := id hb
  simp only at hc hd hc2 hd2
  subst hc hd hc2 hd2
  exact call_meets F.slot_tuple_lt ⟨_, ho, rfl⟩ F.entry_tuple_lt (F.args_tuple_lt_2 _ _) (PySem.SeqAt.tuple_ltAt l b items items2 n n2 dd dd2 sl sl2 e r) ⟨ho, ho2, he, hr, h⟩
theorem oneLt_tup {xs ys : List PyData} {a b : Value} {as bs : List Addr} {Q : Bool → Shared → Prop} (ra : Reads s.heap a (.tuple xs) as) (rb : Reads s.heap b (.tuple ys) bs) (h : alike (.tuple xs) (.tuple ys) = true)
    (hu : A.units + min (PyData.tuple xs).depth (PyData.tuple ys).depth < cLine) (hq : Q (dataLt (.tuple xs) (.tuple ys)) s) : wpAny (model prog w) A (oneLt' true a b) Q E s := by
  have hal : alikeAll xs ys = true := by simpa [alike] using h
  cases ra with
  | @tuple l o vs n _ as₁ h1 h2 h3 h4 =>
    cases rb with
    | @tuple l' o' vs' n' _ bs₁ k1 k2 k3 k4 =>
      have n1 : vs.size = xs.length := by simpa using ReadsAll.length _ _ _ h4
      have n2 : vs'.size = ys.length := by simpa using ReadsAll.length _ _ _ k4
      rw [dataLt_tuple, ← firstLt_toks xs ys hal, ← n1, ← n2] at hq
      rw [oneLt'_eq]
      simp only [if_true]
      refine wpAny_bind (wpAny_cRoomFor (room_here hu) ?_)
      refine wpAny_bind (wpAny_callSpecialIfBound?_slot (T := "tuple") ⟨_, h1, h2⟩ F.slot_tuple_lt (call_tuple_lt (e := pairEq xs ys) (r := fun j => dataLt (xs.getD j .none) (ys.getD j .none)) ⟨_, h1, h2, _, h3⟩ ⟨_, k1, k2, _, k3⟩ (fun j j1 j2 => ?_) (fun j j1 j2 hj => ?_) ?_))
      · have := eqAt_alikeAll xs ys A.in1 s vs.toList vs'.toList _ _ h4 k4 hal (room_in hu) j (by simpa using j1) (by simpa using j2)
        simpa using this
      · have := rcLt_alikeAll xs ys A.in1 s vs.toList vs'.toList _ _ h4 k4 hal (room_in hu) j (by simpa using j1) (by simpa using j2) hj
        simpa using this
      · exact wpAny_truthy_bool hq
def fullT : PyData → Bool
  | .tuple (_ :: _) => true
  | _ => false
theorem firsts_mixed {M : Model} : ∀ {vs : List Value} {ds : List PyData}, EachIs (fun v d => ∃ as, Reads s.heap v d as) vs ds → (∀ d ∈ ds, ∃ xs, d = .tuple xs) → ∃ fs : List (Option Value), fs.map Option.isSome = ds.map fullT ∧ ∀ (Q : List (Option Value) → Shared → Prop) (E : Value → Shared → Prop), Q fs s → wpAny M A (vs.mapM firstOfTuple') Q E s
  | _, _, .nil, _ => ⟨[], rfl, fun Q E h => by rw [List.mapM_nil]; exact wpAny_pure h⟩
  | v :: vs, d :: ds, .cons ⟨as, r⟩ t, ht => by
    obtain ⟨fs, h1, h2⟩ := firsts_mixed (M := M) t fun d hd => ht d (List.mem_cons_of_mem _ hd)
    obtain ⟨xs, rfl⟩ := ht d List.mem_cons_self
    cases r with
    | @tuple a o its n _ _ ho hc hd hr =>
      refine ⟨its[0]? :: fs, ?_, fun Q E hq => ?_⟩
      · rw [List.map_cons, List.map_cons, h1]
        congr 1
        cases xs with
        | nil =>
          have : its.size = 0 := by simpa using ReadsAll.length _ _ _ hr
          rw [Array.getElem?_eq_none (by omega)]; rfl
        | cons x xs =>
          have : its.size = xs.length + 1 := by simpa using ReadsAll.length _ _ _ hr
          rw [Array.getElem?_eq_getElem (by omega)]; rfl
      · rw [List.mapM_cons]
        refine wpAny_bind ?_
        rw [kas_first_eq]
        refine wpAny_bind (Looks.here (show Looks M s.heap (typeOf (.ref a)) o.cls from (Looks.ld ho).andThen .now) ?_)
        rw [hc, if_neg (by first | decide | simp)]
        refine wpAny_bind (listItems_at ho hd (wpAny_pure ?_))
        exact wpAny_bind (h2 (fun bs s' => wpAny M A (pure (its[0]? :: bs)) Q E s') E (wpAny_pure hq))
/-- what the sort finds out about its keys, and how it compares them -/
theorem sort_kind {vs : List Value} {ds : List PyData} (e : EachIs (fun v d => ∃ as, Reads s.heap v d as) vs ds) (hal : AllAlike ds) (hT : TupOr ds) (h2 : 2 ≤ vs.length) (hu : ∀ d ∈ ds, A.units + d.depth < cLine) : ∃ κ,
    (∀ (Q : SortKind → Shared → Prop) (E : Value → Shared → Prop), Q κ s → wpAny (model prog w) A (keyKind' vs.toArray) Q E s) ∧
    ∀ (x y : Value) (d d' : PyData) (as bs : List Addr) (Q : Bool → Shared → Prop) (E : Value → Shared → Prop), d ∈ ds → d' ∈ ds → Reads s.heap x d as → Reads s.heap y d' bs → Q (dataLt d d') s → wpAny (model prog w) A (keyLt' κ x y) Q E s := by
  have room : ∀ {d d' : PyData}, d ∈ ds → A.units + min d.depth d'.depth < cLine := fun {d d'} hd => Nat.lt_of_le_of_lt (Nat.add_le_add_left (Nat.min_le_left _ _) _) (hu d hd)
  cases ds with
  | nil => cases e; simp at h2
  | cons d₀ ds₀ =>
    rcases hT with hT | hn
    · by_cases hall : ∀ d ∈ d₀ :: ds₀, ∃ x r, d = PyData.tuple (x :: r)
      · obtain ⟨x₀, r₀, e₀⟩ := hall d₀ List.mem_cons_self
        have hfirst : ∀ x r, PyData.tuple (x :: r) ∈ d₀ :: ds₀ → alike x x₀ = true := by
          intro x r hm
          have q := hal _ hm d₀ List.mem_cons_self
          rw [e₀] at q
          exact (alike_all_cons (by simpa [alike] using q)).1
        refine ⟨tuples' (dataType x₀ != Value.type "tuple"), fun Q E hq => ?_, ?_⟩
        · obtain ⟨fs, t1, t2, t3⟩ := each_katTups e hall
          refine kat_kind (T := dataType x₀) t1 (by omega) (fun f hf => ?_) (beq_self_eq_true _) hq
          obtain ⟨x, r, as, m1, m2⟩ := t3 f hf
          rw [← dataType_alike (hfirst x r m1)]
          exact looks_reads m2
        · intro x y d d' as bs Q E hd hd' ra rb hq
          have hdd := hal d hd d' hd'
          have hroom := room (d' := d') hd
          obtain ⟨x1, r1, rfl⟩ := hall d hd
          obtain ⟨x2, r2, rfl⟩ := hall d' hd'
          rw [dataLt_tuple] at hq
          cases ra with
          | @tuple l o xs n _ _ h1 h2 h3 h4 =>
            cases rb with
            | @tuple l' o' xs' n' _ _ k1 k2 k3 k4 =>
              have n1 : xs.size = (x1 :: r1).length := by simpa using SeqAt.ReadsAll.length _ _ _ h4
              have n2 : xs'.size = (x2 :: r2).length := by simpa using SeqAt.ReadsAll.length _ _ _ k4
              refine kat_lt h1 h3 k1 k3 (katLex_alike (x1 :: r1) (x2 :: r2) 0 _ _ _ _ h4 k4 (by simpa [alike] using hdd) (by have q := SeqAt.room_in hroom; omega) (fun hb _ x r t ex => ?_) (by rw [n1, n2]) hq)
              obtain ⟨rfl, rfl⟩ := List.cons.inj ex
              have q := dataType_alike (hfirst _ _ hd)
              rw [← q] at hb
              exact dataType_tuple hb t
      · obtain ⟨fs, f1, f2⟩ := firsts_mixed (A := A) (M := model prog w) e hT
        have hnot : (fs.toArray.all fun x => x.isSome) = false := by
          cases q : (fs.toArray.all fun x => x.isSome) with
          | false => rfl
          | true =>
            refine (hall fun d hd => ?_).elim
            have q' : (fs.map Option.isSome).all id = true := by
              rw [List.all_map]
              simpa using q
            rw [f1, List.all_map, List.all_eq_true] at q'
            have := q' d hd
            obtain ⟨xs, rfl⟩ := hT d hd
            cases xs with
            | nil => cases this
            | cons x r => exact ⟨x, r, rfl⟩
        have lt1 : ∀ (f : Bool) (x y : Value) (d d' : PyData) (as bs : List Addr) (Q : Bool → Shared → Prop) (E : Value → Shared → Prop), d ∈ d₀ :: ds₀ → d' ∈ d₀ :: ds₀ → Reads s.heap x d as → Reads s.heap y d' bs → Q (dataLt d d') s → wpAny (model prog w) A (oneLt' f x y) Q E s := by
          intro f x y d d' as bs Q E hd hd' ra rb hq
          have hdd := hal d hd d' hd'
          have hroom := room (d' := d') hd
          obtain ⟨xs, rfl⟩ := hT d hd
          obtain ⟨ys, rfl⟩ := hT d' hd'
          cases f with
          | true => exact oneLt_tup ra rb hdd hroom hq
          | false => exact oneLt_alike (fun z => nomatch z) ra rb hdd (fun z => nomatch z) hroom hq
        by_cases hf : (fs.toArray[0]?.bind id).isSome = true
        · refine ⟨general', fun Q E hq => ?_, fun x y d d' as bs Q E hd hd' ra rb hq => lt1 false x y d d' as bs Q E hd hd' ra rb hq⟩
          rw [keyKind'_eq, List.mapM_toArray, map_eq_pure_bind]
          refine wpAny_bind (wpAny_bind (f2 _ _ (wpAny_pure ?_)))
          rw [if_neg (by rw [hnot]; exact Bool.false_ne_true), if_pos hf]
          exact wpAny_pure hq
        · refine ⟨oneType', fun Q E hq => ?_, fun x y d d' as bs Q E hd hd' ra rb hq => by rw [keyLt'_oneType]; exact lt1 true x y d d' as bs Q E hd hd' ra rb hq⟩
          rw [keyKind'_eq, List.mapM_toArray, map_eq_pure_bind]
          refine wpAny_bind (wpAny_bind (f2 _ _ (wpAny_pure ?_)))
          rw [if_neg (by rw [hnot]; exact Bool.false_ne_true), if_neg hf]
          have hty : ∀ v ∈ vs, Looks (model prog w) s.heap (typeOf v) (.type "tuple") := fun v hv => by
            obtain ⟨d, hd, as, r⟩ := e.left v hv
            obtain ⟨xs, rfl⟩ := hT d hd
            exact looks_reads r
          rw [oneTypeOnly'_eq, List.mapM_toArray, map_eq_pure_bind]
          refine wpAny_bind (wpAny_bind (wpAny_bind (kas_mapM (r := Value.type "tuple") _ (fun v hv Q' hq => (hty v hv).here hq) (wpAny_pure ?_))))
          obtain ⟨v₁, rest, rfl⟩ : ∃ v₁ rest, vs = v₁ :: rest := by
            match vs, h2 with
            | v₁ :: rest, _ => exact ⟨v₁, rest, rfl⟩
          have hall2 : ((List.map (fun _ => Value.type "tuple") (v₁ :: rest)).toArray.all fun x => x == Value.type "tuple") = true := by
            simp only [List.all_toArray, List.all_map, List.all_eq_true]
            intro _ _
            rfl
          have h0 : (List.map (fun _ => Value.type "tuple") (v₁ :: rest)).toArray[0]? = some (Value.type "tuple") := by simp
          rw [h0]
          simp only [hall2, if_true]
          exact wpAny_pure (wpAny_pure hq)
    · refine ⟨oneType', fun Q E hq => ?_, fun x y d d' as bs Q E hd hd' ra rb hq => ?_⟩
      · refine kas_kind (T := dataType d₀) h2 (fun v hv => ?_) (dataType_other (hn d₀ List.mem_cons_self).2) (beq_self_eq_true _) hq
        obtain ⟨d, hd, as, r⟩ := e.left v hv
        rw [← dataType_alike (hal d hd d₀ List.mem_cons_self)]
        exact looks_reads r
      · rw [keyLt'_oneType]
        exact oneLt_alike (fun _ => (hn d hd).2) ra rb (hal d hd d' hd') (hn d hd).1 (room hd) hq
theorem each_keeps {h h' : Heap} (k : ∀ b o, h.get? b = some o → h'.get? b = some o) {vs : List Value} {ds : List PyData} (e : EachIs (fun v d => ∃ as, Reads h v d as) vs ds) : EachIs (fun v d => ∃ as, Reads h' v d as) vs ds := e.mono fun _ _ ⟨as, r⟩ => ⟨as, PyProof.Rows.Reads.keeps k r⟩
theorem sortable_dt {h₀ : Heap} {a : Addr} {vs : List Value} {ds : List PyData} (e : EachIs (fun v d => ∃ as, Reads h₀ v d as) vs ds) (hal : AllAlike ds) (hT : TupOr ds) (h2 : 2 ≤ vs.length) (hu : ∀ d ∈ ds, A.units + d.depth < cLine)
    (k : ∀ b o, h₀.get? b = some o → b ≠ a ∧ s.heap.get? b = some o) : SortableO prog w A s a vs (ltDt h₀ ds) := by
  intro h' k'
  have kk : ∀ b o, h₀.get? b = some o → h'.get? b = some o := fun b o q => k' b o (k b o q).1 (k b o q).2
  obtain ⟨κ, h3, h4⟩ := sort_kind (prog := prog) (w := w) (s := { s with heap := h' }) (each_keeps kk e) hal hT h2 hu
  refine ⟨κ, h3, fun p q hp hq => ?_⟩
  obtain ⟨d, hd, as, r⟩ := e.left _ hp
  obtain ⟨d', hd', bs, r'⟩ := e.left _ hq
  refine h4 p.1 q.1 d d' as bs _ _ hd hd' (PyProof.Rows.Reads.keeps kk r) (PyProof.Rows.Reads.keeps kk r') ⟨rfl, ?_⟩
  exact (lt_dt hal hd hd' r r').symm
end
/-- an insertion sort, stable -/
def insA {α : Type} (lt : α → α → Bool) (x : α) : List α → List α
  | [] => [x]
  | y :: ys => if lt x y then x :: y :: ys else y :: insA lt x ys
def sortA {α : Type} (lt : α → α → Bool) (xs : List α) : List α := xs.foldl (fun acc x => insA lt x acc) []
section
variable {α β : Type} {lt : α → α → Bool}
theorem insA_split (O : Swo lt) (x : α) : ∀ l : List α, Srtd lt l → ∃ M N, l = M ++ N ∧ insA lt x l = M ++ x :: N ∧ (∀ y ∈ M, lt x y = false) ∧ ∀ y ∈ N, lt x y = true
  | [], _ => ⟨[], [], rfl, rfl, fun _ h => (nomatch h), fun _ h => (nomatch h)⟩
  | y :: ys, hs => by
    unfold insA
    by_cases h : lt x y = true
    · rw [if_pos h]
      exact ⟨[], y :: ys, rfl, rfl, fun _ h => (nomatch h), O.lt_all hs h⟩
    · rw [if_neg h]
      obtain ⟨M, N, e1, e2, e3, e4⟩ := insA_split O x ys (List.pairwise_cons.mp hs).2
      refine ⟨y :: M, N, by rw [e1]; rfl, by rw [e2]; rfl, fun z hz => ?_, e4⟩
      rcases List.mem_cons.mp hz with rfl | hz
      · simpa using h
      · exact e3 z hz
theorem sortA_ok (O : Swo lt) : ∀ (xs acc O1 : List α), Srtd lt acc → Stb lt acc O1 → Srtd lt (xs.foldl (fun acc x => insA lt x acc) acc) ∧ Stb lt (xs.foldl (fun acc x => insA lt x acc) acc) (O1 ++ xs)
  | [], acc, O1, h1, h2 => ⟨h1, by rw [List.append_nil]; exact h2⟩
  | x :: xs, acc, O1, h1, h2 => by
    obtain ⟨M, N, e1, e2, e3, e4⟩ := insA_split O x acc h1
    have q := sortA_ok O xs (insA lt x acc) (O1 ++ [x]) (by rw [e2]; exact ins_srtd O (e1 ▸ h1) e3 e4) (by rw [e2]; exact ins_stb O e4 (e1 ▸ h2))
    rw [List.append_assoc] at q
    exact q
theorem sortA_uniq (O : Swo lt) {out xs : List α} (h1 : Srtd lt out) (h2 : Stb lt out xs) : out = sortA lt xs := by
  obtain ⟨q1, q2⟩ := sortA_ok O xs [] [] List.Pairwise.nil (Stb.refl [])
  exact stb_uniq O h1 q1 (h2.trans ⟨q2.perm.symm, fun x => (q2.cls x).symm⟩)
theorem insA_map {lt' : β → β → Bool} (f : α → β) (P : α → Prop) (h : ∀ a b, P a → P b → lt' (f a) (f b) = lt a b) {x : α} (hx : P x) : ∀ l : List α, (∀ a ∈ l, P a) → (insA lt x l).map f = insA lt' (f x) (l.map f)
  | [], _ => rfl
  | y :: ys, hl => by
    have hy := hl y List.mem_cons_self
    show (if lt x y = true then x :: y :: ys else y :: insA lt x ys).map f = if lt' (f x) (f y) = true then f x :: f y :: ys.map f else f y :: insA lt' (f x) (ys.map f)
    rw [h x y hx hy]
    by_cases q : lt x y = true
    · rw [if_pos q, if_pos q]; rfl
    · rw [if_neg q, if_neg q, List.map_cons, insA_map f P h hx ys fun a ha => hl a (List.mem_cons_of_mem _ ha)]
theorem insA_mem {x a : α} : ∀ {l : List α}, a ∈ insA lt x l → a = x ∨ a ∈ l
  | [], h => .inl (List.mem_singleton.mp h)
  | y :: ys, h => by
    unfold insA at h
    split at h
    · rcases List.mem_cons.mp h with z | z
      · exact .inl z
      · exact .inr z
    · rcases List.mem_cons.mp h with z | z
      · exact .inr (z ▸ List.mem_cons_self)
      · rcases insA_mem z with z | z
        · exact .inl z
        · exact .inr (List.mem_cons_of_mem _ z)
theorem sortA_mapF {lt' : β → β → Bool} (f : α → β) (P : α → Prop) (h : ∀ a b, P a → P b → lt' (f a) (f b) = lt a b) : ∀ (xs acc : List α), (∀ a ∈ xs, P a) → (∀ a ∈ acc, P a) → (∀ a ∈ xs.foldl (fun acc x => insA lt x acc) acc, P a) ∧
    (xs.foldl (fun acc x => insA lt x acc) acc).map f = (xs.map f).foldl (fun acc x => insA lt' x acc) (acc.map f)
  | [], acc, _, h2 => ⟨h2, rfl⟩
  | x :: xs, acc, h1, h2 => by
    have hx := h1 x List.mem_cons_self
    have hi : ∀ a ∈ insA lt x acc, P a := fun a ha => (insA_mem ha).elim (fun z => z ▸ hx) (h2 a)
    have q := sortA_mapF f P h xs (insA lt x acc) (fun a ha => h1 a (List.mem_cons_of_mem _ ha)) hi
    rw [insA_map f P h hx acc h2] at q
    exact q
theorem sortA_map {lt' : β → β → Bool} (f : α → β) (P : α → Prop) (h : ∀ a b, P a → P b → lt' (f a) (f b) = lt a b) {xs : List α} (hP : ∀ a ∈ xs, P a) : (∀ a ∈ sortA lt xs, P a) ∧ (sortA lt xs).map f = sortA lt' (xs.map f) :=
  sortA_mapF f P h xs [] hP (fun _ h => (nomatch h))
end
end MI
set_option linter.all false
set_option Elab.async false
set_option maxRecDepth 100000
set_option maxHeartbeats 1000000
namespace MI
open PySem PySem.Spec PyProof.Rows L2
/-! ### sorted, min, max of ordered data -/
theorem insD_eq (x : D) : ∀ l, insD x l = insA D.lt x l
  | [] => rfl
  | y :: ys => by
    show (if x.lt y then x :: y :: ys else y :: insD x ys) = if x.lt y = true then x :: y :: ys else y :: insA D.lt x ys
    rw [insD_eq x ys]
theorem sortD_eq (xs : List D) : sortD xs = sortA D.lt xs := by
  unfold sortD sortA
  congr 1
  funext acc x
  exact insD_eq x acc
mutual
theorem cmp_alike : ∀ a b : D, a.cmp b = true → PySem.W.alike a.py b.py = true ∧ PyData.eqv a.py b.py = a.beq b ∧ (a.beq b = true → a = b)
  | .int i, b, h => by
    cases b <;> first | (unfold D.cmp at h; cases h; done) | skip
    rename_i j
    refine ⟨by simp [D.py, PySem.W.alike], by simp [D.py, PyData.eqv, D.beq], fun q => ?_⟩
    unfold D.beq at q
    rw [beq_iff_eq.mp q]
  | .tup xs, b, h => by
    cases b <;> first | (unfold D.cmp at h; cases h; done) | skip
    rename_i ys
    unfold D.cmp at h
    obtain ⟨h1, h2, h3⟩ := cmps_alike xs ys h
    refine ⟨by simpa [D.py, PySem.W.alike] using h1, ?_, fun q => ?_⟩
    · unfold D.py PyData.eqv D.beq
      exact h2
    · unfold D.beq at q
      rw [h3 q]
  | .non, b, h => by unfold D.cmp at h; cases h
  | .bl _, b, h => by unfold D.cmp at h; cases h
  | .str _, b, h => by unfold D.cmp at h; cases h
  | .lst _, b, h => by unfold D.cmp at h; cases h
  | .obj _ _, b, h => by unfold D.cmp at h; cases h
  | .exc _ _, b, h => by unfold D.cmp at h; cases h
  | .dic, b, h => by unfold D.cmp at h; cases h
  | .ro _, b, h => by unfold D.cmp at h; cases h
theorem cmps_alike : ∀ a b : List D, D.cmps a b = true → PySem.W.alikeAll (D.pys a) (D.pys b) = true ∧ PyData.eqvAll (D.pys a) (D.pys b) = D.beqs a b ∧ (D.beqs a b = true → a = b)
  | [], [], _ => ⟨rfl, rfl, fun _ => rfl⟩
  | [], y :: ys, _ => ⟨rfl, rfl, fun q => by unfold D.beqs at q; cases q⟩
  | x :: xs, [], _ => ⟨rfl, rfl, fun q => by unfold D.beqs at q; cases q⟩
  | x :: xs, y :: ys, h => by
    unfold D.cmps at h
    rw [Bool.and_eq_true] at h
    obtain ⟨h1, h2, h3⟩ := cmp_alike x y h.1
    obtain ⟨g1, g2, g3⟩ := cmps_alike xs ys h.2
    refine ⟨?_, ?_, fun q => ?_⟩
    · unfold D.pys
      rw [PySem.W.alikeAll, h1, g1]; rfl
    · unfold D.pys D.beqs
      rw [PyData.eqvAll, h2, g2]
    · unfold D.beqs at q
      rw [Bool.and_eq_true] at q
      rw [h3 q.1, g3 q.2]
end
mutual
theorem lt_py : ∀ a b : D, a.cmp b = true → PySem.W.dataLt a.py b.py = a.lt b
  | .int i, b, h => by
    cases b <;> first | (unfold D.cmp at h; cases h; done) | skip
    unfold D.py D.lt
    exact PySem.W.dataLt_int _ _
  | .tup xs, b, h => by
    cases b <;> first | (unfold D.cmp at h; cases h; done) | skip
    unfold D.cmp at h
    unfold D.py D.lt
    rw [PySem.W.dataLt_tuple]
    exact lts_py xs _ h
  | .non, b, h => by unfold D.cmp at h; cases h
  | .bl _, b, h => by unfold D.cmp at h; cases h
  | .str _, b, h => by unfold D.cmp at h; cases h
  | .lst _, b, h => by unfold D.cmp at h; cases h
  | .obj _ _, b, h => by unfold D.cmp at h; cases h
  | .exc _ _, b, h => by unfold D.cmp at h; cases h
  | .dic, b, h => by unfold D.cmp at h; cases h
  | .ro _, b, h => by unfold D.cmp at h; cases h
theorem lts_py : ∀ a b : List D, D.cmps a b = true → PyProof.Rows.lexLt PyProof.Rows.itemOrd (PySem.W.keyToksAll (D.pys a)) (PySem.W.keyToksAll (D.pys b)) = D.lts a b
  | [], [], _ => PyProof.Rows.lex_irrefl _
  | [], y :: ys, _ => by
    unfold D.pys D.lts
    rw [PySem.W.toks_all_cons]
    simp only [PySem.W.keyToksAll]
    rw [PyProof.Rows.lex_diff (O := PyProof.Rows.itemOrd) (by simp)]
    rfl
  | x :: xs, [], _ => by
    unfold D.pys D.lts
    rw [PySem.W.toks_all_cons]
    simp only [PySem.W.keyToksAll]
    rw [PyProof.Rows.lex_diff (O := PyProof.Rows.itemOrd) (by simp)]
    rfl
  | x :: xs, y :: ys, h => by
    unfold D.cmps at h
    rw [Bool.and_eq_true] at h
    obtain ⟨h1, h2, h3⟩ := cmp_alike x y h.1
    unfold D.pys D.lts
    rw [PySem.W.dataLt_cons h1, h2, lts_py xs ys h.2, lt_py x y h.1]
end
mutual
theorem ord_plain : ∀ (d : D) (n m : Nat), d.ord n = true → n ≤ m → d.plain m = true ∧ d.py.depth ≤ n
  | .int _, n, m, _, _ => ⟨rfl, Nat.zero_le _⟩
  | .tup xs, 0, m, h, _ => by unfold D.ord at h; cases h
  | .tup xs, n + 1, 0, h, hm => by omega
  | .tup xs, n + 1, m + 1, h, hm => by
    have h' : D.ords xs n = true := by unfold D.ord at h; exact h
    obtain ⟨h1, h2⟩ := ords_plain xs n m h' (by omega)
    refine ⟨by unfold D.plain; exact h1, ?_⟩
    unfold D.py PyData.depth; omega
  | .non, n, m, h, _ => by unfold D.ord at h; cases h
  | .bl _, n, m, h, _ => by unfold D.ord at h; cases h
  | .str _, n, m, h, _ => by unfold D.ord at h; cases h
  | .lst _, n, m, h, _ => by unfold D.ord at h; cases h
  | .obj _ _, n, m, h, _ => by unfold D.ord at h; cases h
  | .exc _ _, n, m, h, _ => by unfold D.ord at h; cases h
  | .dic, n, m, h, _ => by unfold D.ord at h; cases h
  | .ro _, n, m, h, _ => by unfold D.ord at h; cases h
theorem ords_plain : ∀ (d : List D) (n m : Nat), D.ords d n = true → n ≤ m → D.plains d m = true ∧ PyData.depthAll (D.pys d) ≤ n
  | [], n, m, _, _ => ⟨rfl, Nat.zero_le _⟩
  | d :: ds, n, m, h, hm => by
    unfold D.ords at h
    rw [Bool.and_eq_true] at h
    obtain ⟨h1, h2⟩ := ord_plain d n m h.1 hm
    obtain ⟨h3, h4⟩ := ords_plain ds n m h.2 hm
    refine ⟨by unfold D.plains; rw [h1, h3]; rfl, ?_⟩
    unfold D.pys PyData.depthAll; omega
end
theorem comparable_of {xs : List D} (h : comparable xs = true) : (∀ a ∈ xs, a.ord 20 = true) ∧ ∀ a ∈ xs, ∀ b ∈ xs, a.cmp b = true := by
  unfold comparable at h
  rw [List.all_eq_true] at h
  refine ⟨fun a ha => ?_, fun a ha b hb => ?_⟩
  · have := h a ha
    rw [Bool.and_eq_true] at this
    exact this.1
  · have := h a ha
    rw [Bool.and_eq_true, List.all_eq_true] at this
    exact this.2 b hb
theorem comparable_plain : ∀ {xs : List D}, (∀ a ∈ xs, a.ord 20 = true) → D.plains xs 60 = true ∧ PyData.depthAll (D.pys xs) ≤ 20
  | [], _ => ⟨rfl, Nat.zero_le _⟩
  | x :: xs, h => by
    obtain ⟨h1, h2⟩ := ord_plain x 20 60 (h x List.mem_cons_self) (by omega)
    obtain ⟨h3, h4⟩ := comparable_plain (xs := xs) fun a ha => h a (List.mem_cons_of_mem _ ha)
    refine ⟨by unfold D.plains; rw [h1, h3]; rfl, ?_⟩
    unfold D.pys PyData.depthAll; omega
theorem comparable_alike {xs : List D} (h : ∀ a ∈ xs, ∀ b ∈ xs, a.cmp b = true) : PySem.W.AllAlike (xs.map D.py) := by
  intro d hd d' hd'
  obtain ⟨a, ha, rfl⟩ := List.mem_map.mp hd
  obtain ⟨b, hb, rfl⟩ := List.mem_map.mp hd'
  exact (cmp_alike a b (h a ha b hb)).1
theorem comparable_tup {xs : List D} (h : ∀ a ∈ xs, ∀ b ∈ xs, a.cmp b = true) : TupOr (xs.map D.py) := by
  cases xs with
  | nil => exact .inl fun d hd => by simp at hd
  | cons x r =>
    have hx := h x List.mem_cons_self
    have hxx := hx _ List.mem_cons_self
    cases x <;> first | (unfold D.cmp at hxx; cases hxx; done) | skip
    · refine .inr fun d hd => ?_
      obtain ⟨b, hb, rfl⟩ := List.mem_map.mp hd
      have q := hx b hb
      cases b <;> first | (unfold D.cmp at q; cases q; done) | skip
      exact ⟨(fun z => by unfold D.py at z; cases z), fun _ z => by unfold D.py at z; cases z⟩
    · refine .inl fun d hd => ?_
      obtain ⟨b, hb, rfl⟩ := List.mem_map.mp hd
      have q := hx b hb
      cases b <;> first | (unfold D.cmp at q; cases q; done) | skip
      exact ⟨_, by unfold D.py; rfl⟩
theorem depth_mem : ∀ {ds : List PyData} {d : PyData}, d ∈ ds → d.depth ≤ PyData.depthAll ds
  | x :: ds, d, h => by
    unfold PyData.depthAll
    rcases List.mem_cons.mp h with rfl | h
    · omega
    · have := depth_mem h; omega
/-- items, their values in the layer, in the model -/
structure Z3 (K : PySem.W.Frag) (ct : CT) (as : List Addr) (H : Hp) (h : Heap) (xs : List D) (z : D × V × Value) : Prop where
  m : z.1 ∈ xs
  r : rel K ct as H z.1 z.2.1
  v : RelV z.2.1 z.2.2
  d : ∃ bs, Reads h z.2.2 z.1.py bs
theorem zip3 {K : PySem.W.Frag} {ct : CT} {as : List Addr} {H : Hp} {h : Heap} : ∀ {xs : List D} {ws : List V} {its : List Value} {bs : List Addr} {all : List D}, (∀ x ∈ xs, x ∈ all) → rels K ct as H xs ws → Vals ws its → ReadsAll h its (D.pys xs) bs →
    ∃ zs : List (D × V × Value), zs.map (·.1) = xs ∧ zs.map (·.2.1) = ws ∧ zs.map (·.2.2) = its ∧ ∀ z ∈ zs, Z3 K ct as H h all z
  | [], ws, its, bs, all, _, r, v, d => by
    unfold rels at r
    subst r
    cases v
    exact ⟨[], rfl, rfl, rfl, fun _ h => (nomatch h)⟩
  | x :: xs, ws, its, bs, all, ha, r, v, d => by
    unfold rels at r
    obtain ⟨w, q, rfl, r1, r2⟩ := r
    cases v with
    | cons v1 v2 =>
      unfold D.pys at d
      cases d with
      | cons d1 d2 =>
        obtain ⟨zs, e1, e2, e3, e4⟩ := zip3 (fun y hy => ha y (List.mem_cons_of_mem _ hy)) r2 v2 d2
        refine ⟨(x, w, _) :: zs, by rw [List.map_cons, e1], by rw [List.map_cons, e2], by rw [List.map_cons, e3], fun z hz => ?_⟩
        rcases List.mem_cons.mp hz with rfl | hz
        · exact ⟨ha x List.mem_cons_self, r1, v1, _, d1⟩
        · exact e4 z hz
theorem z3_rels {K : PySem.W.Frag} {ct : CT} {as : List Addr} {H : Hp} {h : Heap} {all : List D} : ∀ {zs : List (D × V × Value)}, (∀ z ∈ zs, Z3 K ct as H h all z) → rels K ct as H (zs.map (·.1)) (zs.map (·.2.1)) ∧ Vals (zs.map (·.2.1)) (zs.map (·.2.2))
  | [], _ => ⟨rels.nil, .nil⟩
  | z :: zs, q => by
    obtain ⟨h1, h2⟩ := z3_rels (zs := zs) fun z hz => q z (List.mem_cons_of_mem _ hz)
    have hz := q z List.mem_cons_self
    exact ⟨rels.cons hz.r h1, .cons hz.v h2⟩
section
variable {prog : Program} {w : World} {A : Around} {E : Value → Shared → Prop} {s : Shared}
theorem collect_tuple {l : Addr} {vs : List Value} {Q : List Value → Shared → Prop} (hl : s.heap.IsTuple l vs.toArray)
    (h : Q vs { s with heap := (s.heap.push (seqObj "list" #[] 0)).update s.heap.objs.size (Obj.mapSeq (· ++ vs.toArray)) }) (hsz : vs.length ≤ sizeLine) :
    wpAny (model prog w) A (collect (.ref l)) Q E s := by
  obtain ⟨o, ho, hc, n, hd⟩ := id hl
  unfold collect
  refine wpAny_bind (wpAny_runValue (codeAny_builtin entry_proto_collect' ?_))
  show wpAny _ _ (do again (.builtin "list.__iadd__" ⟨[← newList [], .ref l], []⟩)) _ _ s
  refine wpAny_bind (wpAny_newList (wpAny_pure ⟨Code.quiet_builtin _ (by decide +kernel), codeAny_builtin entry_list_iadd' ?_⟩))
  show wpAny _ _ (Builtin.List.listExtendWith (.ref s.heap.objs.size) (.ref l) (.ref s.heap.objs.size)) _ _ { s with heap := s.heap.push (seqObj "list" #[] 0) }
  unfold Builtin.List.listExtendWith
  have ho' : (s.heap.push (seqObj "list" #[] 0)).get? l = some o := Heap.get?_push_of_some _ ho
  refine wpAny_bind (wpAny_typeOf (T := "tuple") ⟨o, ho', hc⟩ ?_)
  have ht : (Value.type "tuple" == Value.type "tuple") = true := by rfl
  rw [if_pos (by rw [ht]; simp)]
  refine wpAny_bind (listItems_at ho' hd ?_)
  refine wpAny_bind (listItems_at (xs := #[]) (n := 0) (Heap.get?_push_size _ rfl) rfl ?_)
  rw [if_neg (by simp)]
  refine wpAny_bind (listUpdate_at (xs := #[]) (n := 0) (Heap.get?_push_size _ rfl) rfl ?_ (Nat.zero_le _) (by show (#[] ++ vs.toArray).size ≤ sizeLine + 1; simp only [Array.size_append, List.size_toArray, List.length_nil]; omega))
  refine wpAny_pure ?_
  show wpAny (model prog w) A (do
      let o ← load s.heap.objs.size
      match o.data with
      | .seq xs _ => pure xs.toList
      | _ => unsupported "internal:collect") Q E { s with heap := (s.heap.push (seqObj "list" #[] 0)).update s.heap.objs.size (Obj.mapSeq (· ++ vs.toArray)) }
  refine wpAny_bind (wpAny_load (get?_update_seq (Heap.get?_push_size _ rfl) _) ?_)
  show wpAny _ _ (pure ((#[] : Array Value) ++ vs.toArray).toList) Q E _
  rw [show ((#[] : Array Value) ++ vs.toArray).toList = vs by simp]
  exact wpAny_pure h
open SrtO Srt in
/-- sorted(t), t a tuple -/
theorem sorted_ordT {l : Addr} {vs : List Value} {ltv : Value → Value → Bool} {Q : Value → Shared → Prop} (O : Swo ltv) (hl : s.heap.IsTuple l vs.toArray) (hz : vs.length ≤ sizeLine)
    (hS : 2 ≤ vs.length → ∀ (h₁ : Heap) (a : Addr), h₁.get? a = some (seqObj "list" vs.toArray 0) → (∀ b o, s.heap.get? b = some o → b ≠ a ∧ h₁.get? b = some o) → SortableO prog w A.in1.in1 { s with heap := h₁ } a vs ltv)
    (h : ∀ out : List Value, Srtd ltv out → Stb ltv out vs → Q (.ref (s.heap.objs.size + 1)) { s with heap := sortedAll s.heap vs out.toArray }) :
    wpAny (model prog w) A (call (.builtin "sorted") [.ref l]) Q E s := by
  refine Calls.call_function_entry kind_sorted plain_sorted entry_sorted (args_sorted1 _) ?_
  unfold Builtin.«sorted»
  refine wpAny_bind (m := checkCount "sorted" 1 1 _) (wpAny_pure ?_)
  refine wpAny_bind (collect_tuple hl ?_ hz)
  refine wpAny_bind (wpAny_newList ?_ hz)
  have hsz : ((s.heap.push (seqObj "list" #[] 0)).update s.heap.objs.size (Obj.mapSeq (· ++ vs.toArray))).objs.size = s.heap.objs.size + 1 := by
    rw [Heap.size_update, size_push']
  have hoL : (((s.heap.push (seqObj "list" #[] 0)).update s.heap.objs.size (Obj.mapSeq (· ++ vs.toArray))).push (seqObj "list" vs.toArray 0)).get? (s.heap.objs.size + 1) = some (seqObj "list" vs.toArray 0) := by
    rw [← hsz]; exact Heap.get?_push_size _ rfl
  have keep : ∀ b o, s.heap.get? b = some o → b ≠ s.heap.objs.size + 1 ∧ (((s.heap.push (seqObj "list" #[] 0)).update s.heap.objs.size (Obj.mapSeq (· ++ vs.toArray))).push (seqObj "list" vs.toArray 0)).get? b = some o := fun b o q => by
    have hlt : b < s.heap.objs.size := Heap.lt_size q
    refine ⟨Nat.ne_of_lt (Nat.lt_succ_of_lt hlt), Heap.get?_push_of_some _ ?_⟩
    rw [Heap.get?_update_ne _ _ _ _ (Nat.ne_of_lt hlt)]
    exact Heap.get?_push_of_some _ q
  show wpAny _ _ _ _ _ { s with heap := ((s.heap.push (seqObj "list" #[] 0)).update s.heap.objs.size (Obj.mapSeq (· ++ vs.toArray))).push (seqObj "list" vs.toArray 0) }
  rw [hsz]
  refine wpAny_bind (wpAny_holding (wpAny_call_entry slot_list_sort ⟨_, hoL, rfl⟩ entry_list_sort (list_sort_ord O hoL hz (fun h2 => hS h2 _ _ hoL keep) fun out hs hb => ⟨_, rfl, ?_⟩) (args_list_sort _)))
  exact wpAny_pure ⟨_, rfl, h out hs hb⟩
end
section
variable {I : Info} {n : Nat} {N : List Str} {sc : Scope} {X : Cx} {W : WX} {S : Sto} {as : List Addr} {H : Hp} {Q : VK} {ds : List D} {vs : List V} {rv : RV}
/-- what comes out of a sort -/
theorem sorted_end {pins : List (Addr × Obj)} {σ : L2.St} {s : Shared} {xs : List D} {ws : List V} {its : List Value} {bs : List Addr} (I1 : Inv X pins σ H s) (hs : SRel X.K I.ct as H S) (hr : rels X.K I.ct as H xs ws) (rv : Vals ws its) (hb : ReadsAll s.heap its (D.pys xs) bs) (hc : ∀ a ∈ xs, ∀ b ∈ xs, a.cmp b = true)
    (hz : its.length ≤ sizeLine) (q : ResQ X.K I.ct as H Q (.new (.lst (sortD xs))) S) {out : List Value} (h1 : SrtO.Srtd (ltDt s.heap (xs.map D.py)) out) (h2 : SrtO.Stb (ltDt s.heap (xs.map D.py)) out its) : EP X pins σ Q (.ref (s.heap.objs.size + 1)) { s with heap := sortedAll s.heap its out.toArray } := by
  obtain ⟨zs, e1, e2, e3, e4⟩ := zip3 (all := xs) (fun x h => h) hr rv hb
  have hal := comparable_alike hc
  obtain ⟨p1, p2⟩ := sortA_map (lt := fun z z' : D × V × Value => z.1.lt z'.1) (lt' := D.lt) (fun z => z.1) (Z3 X.K I.ct as H s.heap xs) (fun a b _ _ => rfl) e4
  obtain ⟨_, p3⟩ := sortA_map (lt := fun z z' : D × V × Value => z.1.lt z'.1) (lt' := ltDt s.heap (xs.map D.py)) (fun z => z.2.2) (Z3 X.K I.ct as H s.heap xs) (fun a b ha hb => by
    obtain ⟨_, ra⟩ := ha.d
    obtain ⟨_, rb⟩ := hb.d
    rw [lt_dt hal (List.mem_map.mpr ⟨a.1, ha.m, rfl⟩) (List.mem_map.mpr ⟨b.1, hb.m, rfl⟩) ra rb]
    exact lt_py _ _ (hc _ ha.m _ hb.m)) e4
  rw [e1, ← sortD_eq] at p2
  rw [e3, ← sortA_uniq (swo_dt _ _) h1 h2] at p3
  obtain ⟨r1, r2⟩ := z3_rels p1
  rw [p2] at r1
  rw [p3] at r2
  obtain ⟨c, hc2⟩ := sortedAll_at s.heap its out.toArray
  have hsz : s.heap.objs.size ≤ s.heap.objs.size + 1 := Nat.le_succ _
  have hlen : ((sortA (fun z z' : D × V × Value => z.1.lt z'.1) zs).map (·.2.1)).length ≤ sizeLine := by
    rw [Paired.length r2]
    have := h2.len
    omega
  exact ⟨.ref (s.heap.objs.size + 1), upd H (s.heap.objs.size + 1) (.lst ((sortA (fun z z' : D × V × Value => z.1.lt z'.1) zs).map (·.2.1))), I1.laid (t' := s.toks) (fun b o e => sortedAll_old e) hsz ⟨hlen, out, c, r2, hc2⟩, rfl, out_new hs q r1 (I1.hok.fresh hsz)⟩
theorem sorted_ok (hc : Cn I n N sc X W) (r : srels X.K I.ct as H ds vs) (s : SRel X.K I.ct as H S) (e : sortedF ds = some rv) (q : ResQ X.K I.ct as H Q rv S) : wpC X (.builtin "sorted") vs H Q := by
  have hun := hc.room.un
  unfold sortedF at e
  split at e
  · rename_i xs
    split at e
    · rename_i hcm
      cases e
      obtain ⟨v, rfl, a, ws, rfl, h, r1⟩ := srels1 r
      obtain ⟨ho, hcc⟩ := comparable_of hcm
      obtain ⟨hp, hd⟩ := comparable_plain ho
      intro pins s1 σ us I1 rr
      rw [Vals.ref1 rr]
      obtain ⟨its, rv, hl, hz⟩ := I1.list (SqL.of h)
      obtain ⟨bs, hb⟩ := Dp.readsAll I1 (D.pys xs) ws its (rels.dp xs 60 ws hp r1) rv
      have he := PySem.W.each_map (R := fun v d => ∃ as, Reads s1.heap v d as) D.py (PySem.W.readsAll_each D.py (bs := xs) (by rw [← pys_map]; exact hb))
      refine SrtO.sorted_ord (swo_dt s1.heap (xs.map D.py)) hl.isList (by rw [← rv.length]; exact hz) (fun h2 h₁ b hb2 kk => ?_) fun out o1 o2 => ?_
      · refine sortable_dt (h₀ := s1.heap) he (comparable_alike hcc) (comparable_tup hcc) h2 (fun d hd2 => ?_) kk
        have := depth_mem hd2
        rw [← pys_map] at this
        show X.A.units + 1 + 1 + d.depth < cLine
        omega
      · exact sorted_end I1 s r1 rv hb hcc (by rw [← rv.length]; exact hz) q o1 o2
    · cases e
  · rename_i xs
    split at e
    · rename_i hcm
      cases e
      obtain ⟨v, rfl, r0⟩ := srels1 r
      obtain ⟨a, ws, rfl, h, r1⟩ := sr_tup r0
      obtain ⟨ho, hcc⟩ := comparable_of hcm
      obtain ⟨hp, hd⟩ := comparable_plain ho
      intro pins s1 σ us I1 rr
      rw [Vals.ref1 rr]
      obtain ⟨its, rv, hl, hz⟩ := I1.tuple h
      obtain ⟨bs, hb⟩ := Dp.readsAll I1 (D.pys xs) ws its (rels.dp xs 60 ws hp r1) rv
      have he := PySem.W.each_map (R := fun v d => ∃ as, Reads s1.heap v d as) D.py (PySem.W.readsAll_each D.py (bs := xs) (by rw [← pys_map]; exact hb))
      refine sorted_ordT (swo_dt s1.heap (xs.map D.py)) hl (by rw [← rv.length]; exact hz) (fun h2 h₁ b hb2 kk => ?_) fun out o1 o2 => ?_
      · refine sortable_dt (h₀ := s1.heap) he (comparable_alike hcc) (comparable_tup hcc) h2 (fun d hd2 => ?_) kk
        have := depth_mem hd2
        rw [← pys_map] at this
        show X.A.units + 1 + 1 + d.depth < cLine
        omega
      · exact sorted_end I1 s r1 rv hb hcc (by rw [← rv.length]; exact hz) q o1 o2
    · cases e
  · cases e
theorem py_inj {a b : D} (h : a.cmp a = true) (h2 : a.cmp b = true) (e : a.py = b.py) : a = b := by
  obtain ⟨_, q1, _⟩ := cmp_alike a a h
  obtain ⟨_, q2, q3⟩ := cmp_alike a b h2
  rw [← e, q1, beq_refl] at q2
  exact q3 q2.symm
theorem minD_py : ∀ (xs : List D) (m : D), (∀ a ∈ m :: xs, ∀ b ∈ m :: xs, a.cmp b = true) → PySem.W.minD m.py (D.pys xs) = (minD m xs).py ∧ minD m xs ∈ m :: xs
  | [], m, _ => ⟨rfl, by unfold minD; simp⟩
  | x :: xs, m, h => by
    have e : PySem.W.minD m.py (D.pys (x :: xs)) = PySem.W.minD (if x.lt m then x else m).py (D.pys xs) := by
      show (x.py :: D.pys xs).foldl _ m.py = (D.pys xs).foldl _ _
      rw [List.foldl_cons, lt_py x m (h x (by simp) m (by simp))]
      cases x.lt m <;> rfl
    have hm : (if x.lt m then x else m) = x ∨ (if x.lt m then x else m) = m := by cases x.lt m <;> simp
    have sub : ∀ a ∈ (if x.lt m then x else m) :: xs, a ∈ m :: x :: xs := fun a ha => by
      rcases List.mem_cons.mp ha with rfl | ha
      · rcases hm with q | q <;> rw [q] <;> simp
      · simp [ha]
    obtain ⟨h1, h2⟩ := minD_py xs (if x.lt m then x else m) fun a ha b hb => h a (sub a ha) b (sub b hb)
    rw [e, h1]
    exact ⟨rfl, sub _ h2⟩
theorem maxD_py : ∀ (xs : List D) (m : D), (∀ a ∈ m :: xs, ∀ b ∈ m :: xs, a.cmp b = true) → PySem.W.maxD m.py (D.pys xs) = (maxD m xs).py ∧ maxD m xs ∈ m :: xs
  | [], m, _ => ⟨rfl, by unfold maxD; simp⟩
  | x :: xs, m, h => by
    have e : PySem.W.maxD m.py (D.pys (x :: xs)) = PySem.W.maxD (if m.lt x then x else m).py (D.pys xs) := by
      show (x.py :: D.pys xs).foldl _ m.py = (D.pys xs).foldl _ _
      rw [List.foldl_cons, lt_py m x (h m (by simp) x (by simp))]
      cases m.lt x <;> rfl
    have hm : (if m.lt x then x else m) = x ∨ (if m.lt x then x else m) = m := by cases m.lt x <;> simp
    have sub : ∀ a ∈ (if m.lt x then x else m) :: xs, a ∈ m :: x :: xs := fun a ha => by
      rcases List.mem_cons.mp ha with rfl | ha
      · rcases hm with q | q <;> rw [q] <;> simp
      · simp [ha]
    obtain ⟨h1, h2⟩ := maxD_py xs (if m.lt x then x else m) fun a ha b hb => h a (sub a ha) b (sub b hb)
    rw [e, h1]
    exact ⟨rfl, sub _ h2⟩
theorem reads_get {h : Heap} : ∀ {its : List Value} {ds : List PyData} {bs : List Addr} {i : Nat} {v : Value}, ReadsAll h its ds bs → its[i]? = some v → ∃ d cs, ds[i]? = some d ∧ Reads h v d cs
  | [], _, _, i, v, _, e => by simp at e
  | u :: its, _, _, i, v, r, e => by
    cases r with
    | cons r1 r2 =>
      cases i with
      | zero => simp at e; subst e; exact ⟨_, _, rfl, r1⟩
      | succ i => simpa using reads_get r2 (by simpa using e)
theorem vals_get : ∀ {ws : List V} {its : List Value} {i : Nat} {v : Value}, Vals ws its → its[i]? = some v → ∃ w, ws[i]? = some w ∧ RelV w v
  | _, [], i, v, _, e => by simp at e
  | _, u :: its, i, v, r, e => by
    cases r with
    | cons r1 r2 =>
      cases i with
      | zero => simp at e; subst e; exact ⟨_, rfl, r1⟩
      | succ i => simpa using vals_get r2 (by simpa using e)
/-- the item that is the least (the greatest) -/
theorem pick_rel {K : PySem.W.Frag} {ct : CT} {h h' : Heap} {xs : List D} {ws : List V} {its : List Value} {bs cs : List Addr} {i : Nat} {v : Value} {d : D} (hr : rels K ct as H xs ws) (rv : Vals ws its) (hb : ReadsAll h its (D.pys xs) bs) (hc : ∀ a ∈ xs, ∀ b ∈ xs, a.cmp b = true) (k : ∀ b o, h.get? b = some o → h'.get? b = some o)
    (hi : its[i]? = some v) (hd : d ∈ xs) (r : Reads h' v d.py cs) : ∃ w, RelV w v ∧ rel K ct as H d w := by
  obtain ⟨w, hw, rw_⟩ := vals_get rv hi
  obtain ⟨p, ds, hp, rp⟩ := reads_get hb hi
  rw [pys_map, List.getElem?_map] at hp
  cases hx : xs[i]? with
  | none => rw [hx] at hp; cases hp
  | some x =>
    rw [hx] at hp
    have hp' : x.py = p := Option.some.inj hp
    subst hp'
    have mx : x ∈ xs := List.mem_of_getElem? hx
    have e := PySem.W.alike_unique x.py d.py v _ _ (cmp_alike x d (hc x mx d hd)).1 (PyProof.Rows.Reads.keeps k rp) r
    have ed := py_inj (hc x mx x mx) (hc x mx d hd) e
    subst ed
    obtain ⟨w', hw', rr⟩ := hr.get hx
    rw [hw] at hw'
    cases hw'
    exact ⟨w, rw_, rr⟩
theorem alikeAll_of {xs : List D} (hc : ∀ a ∈ xs, ∀ b ∈ xs, a.cmp b = true) : PySem.W.AlikeAll (D.pys xs) := by
  rw [pys_map]
  refine ⟨fun d hd d' hd' => comparable_alike hc d hd d' hd', fun d hd => ?_⟩
  obtain ⟨a, ha, rfl⟩ := List.mem_map.mp hd
  have q := hc a ha a ha
  cases a <;> first | (unfold D.cmp at q; cases q; done) | (intro z; unfold D.py at z; cases z; done)
theorem min_ok (hc : Cn I n N sc X W) (r : srels X.K I.ct as H ds vs) (s : SRel X.K I.ct as H S) (e : minF ds = some rv) (q : ResQ X.K I.ct as H Q rv S) : wpC X (.builtin "min") vs H Q := by
  have hun := hc.room.un
  unfold minF at e
  split at e
  · cases e
    obtain ⟨v, u, rfl, r1, r2⟩ := srels2 r
    rw [sr_int r1, sr_int r2]
    exact (call_min2 hc.calm).wp ⟨_, _, rfl, out_d s q rl_int⟩
  · rename_i x xs
    split at e
    · rename_i hcm
      cases e
      obtain ⟨v, rfl, a, ws, rfl, h, r1⟩ := srels1 r
      obtain ⟨ho, hcc⟩ := comparable_of hcm
      obtain ⟨hp, hd⟩ := comparable_plain ho
      intro pins s1 σ us I1 rr
      rw [Vals.ref1 rr]
      obtain ⟨its, rv, hl, hz⟩ := I1.list (SqL.of h)
      obtain ⟨bs, hb⟩ := Dp.readsAll I1 (D.pys (x :: xs)) ws its (rels.dp (x :: xs) 60 ws hp r1) rv
      have hb' : ReadsAll s1.heap its (x.py :: D.pys xs) bs := hb
      refine PySem.W.min_list_data (I1.ok.hd hc.calm) hl.isList (by simpa using hb') (alikeAll_of hcc) (by show X.A.units + 1 + PyData.depthAll (D.pys (x :: xs)) < _; omega) fun i v h' tk cs hi hr k => ?_
      obtain ⟨m1, m2⟩ := minD_py xs x hcc
      rw [m1] at hr
      obtain ⟨w, rw_, rl⟩ := pick_rel r1 rv hb hcc k (by simpa using hi) m2 hr
      exact ⟨w, H, I1.kept k, rw_, out_d s q rl⟩
    · cases e
  · cases e
theorem max_ok (hc : Cn I n N sc X W) (r : srels X.K I.ct as H ds vs) (s : SRel X.K I.ct as H S) (e : maxF ds = some rv) (q : ResQ X.K I.ct as H Q rv S) : wpC X (.builtin "max") vs H Q := by
  have hun := hc.room.un
  unfold maxF at e
  split at e
  · cases e
    obtain ⟨v, u, rfl, r1, r2⟩ := srels2 r
    rw [sr_int r1, sr_int r2]
    exact (call_max2 hc.calm).wp ⟨_, _, rfl, out_d s q rl_int⟩
  · rename_i x xs
    split at e
    · rename_i hcm
      cases e
      obtain ⟨v, rfl, a, ws, rfl, h, r1⟩ := srels1 r
      obtain ⟨ho, hcc⟩ := comparable_of hcm
      obtain ⟨hp, hd⟩ := comparable_plain ho
      intro pins s1 σ us I1 rr
      rw [Vals.ref1 rr]
      obtain ⟨its, rv, hl, hz⟩ := I1.list (SqL.of h)
      obtain ⟨bs, hb⟩ := Dp.readsAll I1 (D.pys (x :: xs)) ws its (rels.dp (x :: xs) 60 ws hp r1) rv
      have hb' : ReadsAll s1.heap its (x.py :: D.pys xs) bs := hb
      refine PySem.W.max_list_data (I1.ok.hd hc.calm) hl.isList (by simpa using hb') (alikeAll_of hcc) (by show X.A.units + 1 + PyData.depthAll (D.pys (x :: xs)) < _; omega) fun i v h' tk cs hi hr k => ?_
      obtain ⟨m1, m2⟩ := maxD_py xs x hcc
      rw [m1] at hr
      obtain ⟨w, rw_, rl⟩ := pick_rel r1 rv hb hcc k (by simpa using hi) m2 hr
      exact ⟨w, H, I1.kept k, rw_, out_d s q rl⟩
    · cases e
  · cases e
end
end MI
set_option linter.all false
set_option Elab.async false
set_option maxRecDepth 100000
set_option maxHeartbeats 1000000
namespace MI
open PySem PySem.Spec PyProof.Rows L2
/-! ### sets of ints: len(set(x)), sorted(set(t)) -/
def ddI : List Int → List Int
  | [] => []
  | x :: xs => x :: (ddI xs).filter fun y => !(y == x)
theorem dedup_ints : ∀ ns : List Int, dedup (ns.map .int) = (ddI ns).map .int
  | [] => rfl
  | n :: ns => by
    show D.int n :: (dedup (ns.map .int)).filter (fun y => !(y.beq (.int n))) = (n :: (ddI ns).filter fun y => !(y == n)).map .int
    rw [dedup_ints ns, List.map_cons, List.filter_map]
    congr 2
theorem ddI_mem : ∀ (ns : List Int) (k : Int), k ∈ ddI ns ↔ k ∈ ns
  | [], k => by simp [ddI]
  | n :: ns, k => by
    unfold ddI
    rw [List.mem_cons, List.mem_cons, List.mem_filter, ddI_mem ns k]
    by_cases h : k = n <;> simp [h]
theorem ddI_nodup : ∀ ns : List Int, (ddI ns).Nodup
  | [] => List.nodup_nil
  | n :: ns => by
    unfold ddI
    refine List.nodup_cons.mpr ⟨fun h => ?_, (ddI_nodup ns).sublist List.filter_sublist⟩
    have := (List.mem_filter.mp h).2
    simp at this
theorem nodup_le {α : Type} [DecidableEq α] : ∀ {l m : List α}, l.Nodup → (∀ k ∈ l, k ∈ m) → l.length ≤ m.length
  | [], m, _, _ => Nat.zero_le _
  | x :: l, m, hn, h => by
    obtain ⟨h1, h2⟩ := List.nodup_cons.mp hn
    have hx := h x List.mem_cons_self
    have q := nodup_le (l := l) (m := m.erase x) h2 fun k hk => by
      have hne : k ≠ x := fun z => h1 (z ▸ hk)
      exact (List.mem_erase_of_ne hne).mpr (h k (List.mem_cons_of_mem _ hk))
    rw [List.length_erase_of_mem hx] at q
    have : 0 < m.length := List.length_pos_of_mem hx
    rw [List.length_cons]; omega
theorem nodup_len {l m : List Int} (h1 : l.Nodup) (h2 : m.Nodup) (h : ∀ k, k ∈ l ↔ k ∈ m) : l.length = m.length := Nat.le_antisymm (nodup_le h1 fun k => (h k).mp) (nodup_le h2 fun k => (h k).mpr)
theorem firstMet_nd (val : Nat → Int) : ∀ i, (firstMet val i).Nodup
  | 0 => by rw [firstMet_zero]; exact List.nodup_nil
  | i + 1 => by
    rw [firstMet_succ]
    have ih := firstMet_nd val i
    unfold step_dedup
    split
    · exact ih
    · rename_i h
      rw [List.nodup_append]
      refine ⟨ih, by simp, fun a ha b hb e => h ?_⟩
      rw [List.mem_singleton] at hb
      rw [List.any_eq_true]
      exact ⟨a, ha, by rw [e, hb]; simp⟩
theorem firstMet_mem (ns : List Int) (k : Int) : k ∈ firstMet (fun i => ns.getD i 0) ns.length ↔ k ∈ ns := by
  have h := firstMet_any (fun i => ns.getD i 0) ns.length k
  have e : (List.range ns.length).map (fun i => ns.getD i 0) = ns := by
    refine List.ext_getElem (by simp) fun i h1 h2 => ?_
    simp only [List.getElem_map, List.getElem_range]
    rw [List.getD_eq_getElem?_getD, List.getElem?_eq_getElem h2]
    rfl
  rw [e] at h
  have a1 : ∀ l : List Int, l.any (· == k) = decide (k ∈ l) := fun l => by
    by_cases hk : k ∈ l
    · rw [decide_eq_true hk, List.any_eq_true]; exact ⟨k, hk, by simp⟩
    · rw [decide_eq_false hk, List.any_eq_false]
      intro x hx q
      rw [beq_iff_eq] at q
      exact hk (q ▸ hx)
  rw [a1, a1] at h
  have := decide_eq_decide.mp h
  exact this
theorem firstMet_len (ns : List Int) : (firstMet (fun i => ns.getD i 0) ns.length).length = (ddI ns).length := nodup_len (firstMet_nd _ _) (ddI_nodup ns) fun k => by rw [firstMet_mem, ddI_mem]
theorem asc_uniq : ∀ {l m : List Int}, l.Pairwise (· < ·) → m.Pairwise (· < ·) → (∀ k, k ∈ l ↔ k ∈ m) → l = m
  | [], [], _, _, _ => rfl
  | [], y :: m, _, _, h => by have := (h y).mpr List.mem_cons_self; simp at this
  | x :: l, [], _, _, h => by have := (h x).mp List.mem_cons_self; simp at this
  | x :: l, y :: m, h1, h2, h => by
    obtain ⟨a1, b1⟩ := List.pairwise_cons.mp h1
    obtain ⟨a2, b2⟩ := List.pairwise_cons.mp h2
    have e : x = y := by
      rcases List.mem_cons.mp ((h x).mp List.mem_cons_self) with q | q
      · exact q
      · rcases List.mem_cons.mp ((h y).mpr List.mem_cons_self) with p | p
        · exact p.symm
        · have := a2 x q
          have := a1 y p
          omega
    subst e
    rw [asc_uniq b1 b2 fun k => ?_]
    have hk := h k
    simp only [List.mem_cons] at hk
    constructor
    · intro q
      rcases hk.mp (.inr q) with z | z
      · subst z; have := a1 k q; omega
      · exact z
    · intro q
      rcases hk.mpr (.inr q) with z | z
      · subst z; have := a2 k q; omega
      · exact z
def ltI (a b : Int) : Bool := decide (a < b)
theorem swoI : SrtO.Swo ltI := ⟨fun x y h => by unfold ltI at *; simp at *; omega, fun x y z h1 h2 => by unfold ltI at *; simp at *; omega⟩
def sortI (ns : List Int) : List Int := sortA ltI ns
theorem sortD_ints (ns : List Int) : sortD (ns.map .int) = (sortI ns).map .int := by
  rw [sortD_eq]
  exact (sortA_map (lt := ltI) (lt' := D.lt) D.int (fun _ => True) (fun a b _ _ => by unfold ltI; simp [D.lt]) (fun _ _ => trivial)).2.symm
theorem sortI_ok (ns : List Int) : SrtO.Srtd ltI (sortI ns) ∧ (sortI ns).Perm ns := by
  obtain ⟨q1, q2⟩ := sortA_ok swoI ns [] [] List.Pairwise.nil (SrtO.Stb.refl [])
  exact ⟨q1, q2.perm⟩
theorem sortI_asc {ns : List Int} (h : ns.Nodup) : (sortI ns).Pairwise (· < ·) := by
  obtain ⟨q1, q2⟩ := sortI_ok ns
  have nd : (sortI ns).Nodup := q2.nodup_iff.mpr h
  have h2 : (sortI ns).Pairwise fun a b => a ≤ b := q1.imp fun {a b} q => by unfold ltI at q; simp at q; exact q
  exact (h2.and nd).imp fun {a b} q => by have h1 := q.1; have h3 := q.2; omega
theorem ints_of' {xs : List D} {ns : List Int} (h : ints? xs = some ns) : xs = ns.map .int := ints_of h
section
variable {I : Info} {n : Nat} {N : List Str} {sc : Scope} {X : Cx} {W : WX} {S : Sto} {as : List Addr} {H : Hp} {Q : VK} {ds : List D} {vs : List V} {rv : RV}
/-- a set of ints in the layer, by the library's words -/
def SetKO (P : Program) (w : World) (a : Addr) (S : Int → Bool) (n : Nat) : HO := .ext fun h => h.SetOf (intKind P w) a S n
theorem setKO_new {P : Program} {w : World} {H : Hp} {h : Heap} {a : Addr} {S : Int → Bool} {n : Nat} (R : h.SetOf (intKind P w) a S n) : ObjOk P w H h a (SetKO P w a S n) := by
  have ⟨o, es, ep, t, ho, _⟩ := R
  refine ⟨R, ⟨o, ho⟩, fun h1 h2 p k => ?_⟩
  obtain ⟨o', es', ep', t', ho', r⟩ := p
  exact ⟨o', es', ep', t', k o' ho', r⟩
theorem len_setKO {a : Addr} {Sx : Int → Bool} {m : Nat} (hm : m < 64) (ha : H a = some (SetKO X.prog X.w a Sx m)) (q : Q (.int (m : Nat)) H) : wpC X (.builtin "len") [.ref a] H Q := by
  intro pins s σ us I1 rr
  rw [Vals.ref1 rr]
  have R : s.heap.SetOf (intKind X.prog X.w) a Sx m := (I1.hok a _ ha).1
  obtain ⟨o, es, ep, t, ho, hex, hd, _, _, _, hf, hn⟩ := R
  exact call_len_set ho hex hd hf (by rw [hn]; omega) ⟨.int (m : Nat), H, I1.tok _, ⟨_, by rw [hn]⟩, q⟩
theorem len_setO {a : Addr} {Sx : Int → Bool} {m : Nat} (hm : m < 64) (ha : H a = some (SetO X.w a Sx m)) (q : Q (.int (m : Nat)) H) : wpC X (.builtin "len") [.ref a] H Q := by
  intro pins s σ us I1 rr
  rw [Vals.ref1 rr]
  obtain ⟨o, es, ep, t, ho, hex, hd, _, _, _, _, hf, hn, _⟩ := setO_get I1 ha
  exact call_len_set ho hex hd hf (by rw [hn]; omega) ⟨.int (m : Nat), H, I1.tok _, ⟨_, by rw [hn]⟩, q⟩
/-- set(l) of a list of ints -/
theorem setL_ok (hc : X.calm = true) {l : Addr} {ns : List Int} (hl : SqL X.K H l (ns.map V.int)) (hn : ns.length < 64) (q : ∀ p, H p = none → Q (.ref p) (upd H p (SetKO X.prog X.w p (fun k => (firstMet (fun i => ns.getD i 0) ns.length).any (· == k)) (ddI ns).length))) : wpC X (.type "set") [.ref l] H Q := by
  intro pins s σ us I1 rr
  rw [Vals.ref1 rr]
  obtain ⟨its, r, pl, hz⟩ := I1.list hl
  have hlen : its.toArray.size = ns.length := by rw [List.size_toArray, ← r.length, List.length_map]
  refine call_set_list (prog := X.prog) (w := X.w) (I1.ok.hd hc) pl.isList (by simpa using r.ints) (by rw [hlen]; unfold scanBound; omega) fun h' tk hS hk => ?_
  rw [hlen, firstMet_len] at hS
  exact ⟨.ref s.heap.objs.size, upd H s.heap.objs.size (SetKO X.prog X.w s.heap.objs.size _ (ddI ns).length), I1.laid (t' := tk) (fun b o e => hk b o (Heap.lt_size e) e) (Nat.le_refl _) (setKO_new hS), rfl, q _ (I1.hok.fresh (Nat.le_refl _))⟩
/-- set(t) of a tuple of ints -/
theorem setT_ok (hc : X.calm = true) {l : Addr} {ns : List Int} (hl : SqT X.K H l (ns.map V.int)) (hn : ns.length < 64) (q : ∀ p, H p = none → Q (.ref p) (upd H p (SetO X.w p (fun k => decide (k ∈ ns)) (ddI ns).length))) : wpC X (.type "set") [.ref l] H Q := by
  intro pins s σ us I1 rr
  rw [Vals.ref1 rr]
  obtain ⟨its, r, pl, hz⟩ := I1.tuple hl
  refine call_set_tupI (P := X.prog) (w := X.w) ns (I1.ok.hd hc) pl (by simpa using r.ints) (by unfold scanBound; omega) fun h' tk c R hcn hk => ?_
  have e : c = (ddI ns).length := by
    obtain ⟨o, es, ep, t, _, _, _, _, nd, hm, _, _, hsz, _⟩ := R
    have h1 : (es.toList.map L2.keyOf).length = (ddI ns).length := nodup_len nd (ddI_nodup ns) fun k => by
      rw [ddI_mem, ← hm k]; simp
    rw [← h1, ← hsz]; simp
  rw [e] at R
  exact ⟨.ref s.heap.objs.size, upd H s.heap.objs.size (SetO X.w s.heap.objs.size _ (ddI ns).length), I1.laid (t' := tk) hk (Nat.le_refl _) (setO_new R), rfl, q _ (I1.hok.fresh (Nat.le_refl _))⟩
theorem ddI_le (ns : List Int) : (ddI ns).length ≤ ns.length := nodup_le (ddI_nodup ns) fun k hk => (ddI_mem ns k).mp hk
theorem lenSet_ok (hc : Cn I n N sc X W) (r : srels X.K I.ct as H ds vs) (s : SRel X.K I.ct as H S) (e : lenSetF ds = some rv) (q : ResQ X.K I.ct as H Q rv S) : wpC X (.type "set") vs H fun u H1 => wpC X (.builtin "len") [u] H1 Q := by
  unfold lenSetF at e
  split at e
  · split at e
    · rename_i xs hlt
      cases h : ints? xs with
      | none => rw [h] at e; cases e
      | some ns =>
        rw [h] at e
        cases e
        obtain ⟨v, rfl, a, ws, rfl, h2, r1⟩ := srels1 r
        have hx := ints_of' h
        subst hx
        rw [rels_ints r1] at h2
        rw [List.length_map] at hlt
        refine setL_ok hc.calm (SqL.of h2) hlt fun p hp => ?_
        have := ddI_le ns
        refine len_setKO (by omega) upd_same ?_
        rw [dedup_ints, List.length_map] at q
        exact q _ _ (Res.ofD (.new hp) (s.fresh hp) rl_int)
    · cases e
  · split at e
    · rename_i xs hlt
      cases h : ints? xs with
      | none => rw [h] at e; cases e
      | some ns =>
        rw [h] at e
        cases e
        obtain ⟨v, rfl, r0⟩ := srels1 r
        obtain ⟨a, ws, rfl, h2, r1⟩ := sr_tup r0
        have hx := ints_of' h
        subst hx
        rw [rels_ints r1] at h2
        rw [List.length_map] at hlt
        refine setT_ok hc.calm h2 hlt fun p hp => ?_
        have := ddI_le ns
        refine len_setO (by omega) upd_same ?_
        rw [dedup_ints, List.length_map] at q
        exact q _ _ (Res.ofD (.new hp) (s.fresh hp) rl_int)
    · cases e
  · cases e
theorem rels_intsD {K : PySem.W.Frag} {ct : CT} : ∀ ns : List Int, rels K ct as H (ns.map .int) (ns.map V.int)
  | [] => rels.nil
  | n :: ns => rels.cons rl_int (rels_intsD ns)
theorem sortSet_ok (hc : Cn I n N sc X W) (r : srels X.K I.ct as H ds vs) (s : SRel X.K I.ct as H S) (e : sortSetF ds = some rv) (q : ResQ X.K I.ct as H Q rv S) : wpC X (.type "set") vs H fun u H1 => wpC X (.builtin "sorted") [u] H1 Q := by
  unfold sortSetF at e
  split at e
  · split at e
    · rename_i xs hlt
      cases h : ints? xs with
      | none => rw [h] at e; cases e
      | some ns =>
        rw [h] at e
        cases e
        obtain ⟨v, rfl, r0⟩ := srels1 r
        obtain ⟨a, ws, rfl, h2, r1⟩ := sr_tup r0
        have hx := ints_of' h
        subst hx
        rw [rels_ints r1] at h2
        rw [List.length_map] at hlt
        refine setT_ok hc.calm h2 hlt fun p hp => ?_
        have := ddI_le ns
        refine (cr_sortedSet hc.calm).wp ⟨p, _, _, rfl, upd_same, by omega, fun ms b h3 h4 h5 hb => ?_⟩
        have em : ms = sortI (ddI ns) := asc_uniq h3 (sortI_asc (ddI_nodup ns)) fun k => by
          rw [h4 k, decide_eq_true_eq, (sortI_ok (ddI ns)).2.mem_iff, ddI_mem]
        rw [dedup_ints, sortD_ints, ← em] at q
        have s1 := s.fresh (o := SetO X.w p (fun k => decide (k ∈ ns)) (ddI ns).length) hp
        exact out_new s1 (ResQ.mono (.new hp) q) (rels_intsD ms) hb
    · cases e
  · cases e
end
end MI
set_option linter.all false
set_option Elab.async false
set_option maxRecDepth 100000
set_option maxHeartbeats 1000000
namespace MI
open PySem PySem.Spec PyProof.Rows L2
/-! ### what is leaned on, all together -/
theorem tuple_mulW1 (l : Addr) (items : Array Value) (n : Nat) (dd : Option Addr) (sl : Array (Option Value)) (u : Tok) :
    Meets (Builtin.«tuple.__mul__» ⟨[.ref l, .int 1 u], []⟩) (fun _ R s => s.heap.get? l = some { cls := .type "tuple", dict := dd, data := .seq items n, slots := sl } ∧ R (.ok (.ret (Value.ref l))) s) :=
  .of_wp fun prog w A R s h => by
    obtain ⟨hp, g, d, tk, os⟩ := s
    obtain ⟨hl, h⟩ := h
    have f1 := AutoSeq1.idx_int
    have c0 : (decide ((1 : Int) < -(2 ^ 63)) || decide ((1 : Int) ≥ 2 ^ 63)) = false := by decide
    have c1 : (items.isEmpty || (1 : Int) == 1) = true := by simp
    wp_walk using wpAny_loadPart' hl
    repeat (first
      | (refine wpAny_ite_false (decide_eq_false (by rw [c0]; exact Bool.false_ne_true)) ?_; wp_walk using wpAny_loadPart' hl)
      | (refine wpAny_ite_true (decide_eq_true (by rw [c1])) ?_; wp_walk using wpAny_loadPart' hl))
    exact ⟨_, rfl, h⟩
section
variable {X : Cx} {H : Hp} {Q : VK}
theorem op_rep1 {l : Addr} {xs : List V} (hT : SqT X.K H l xs) (q : Q (.ref l) H) : wpOp X (binaryOp .Mult) (.ref l) (.int 1) H Q := by
  intro pins s σ v u I rx ry
  cases rx
  obtain ⟨t, rfl⟩ := ry
  obtain ⟨its, r, ⟨⟨cls, dd, data, sl⟩, ho, hc, n, hd⟩, hs⟩ := I.tuple hT
  simp only at hc hd
  subst hc hd
  exact wpAny_binaryOp_repeat_ref (T := "tuple") (U := "int") (by decide) ⟨_, ho, rfl⟩ (fun s' => typeIs_int s' 1 t) noFill_tuple_mul F.fills_int_mul F.slot_int_rmul repeat_tuple F.slot_int_index.lookup
    (call_meets F.slot_int_rmul (typeIs_int s 1 t) F.entry_int_rmul (F.args_int_rmul_2 _ _) (int_rmul_tuple 1 t l its.toArray n dd sl)
      ⟨ho, rfl, ⟨_, ho, rfl⟩, call_meets F.slot_tuple_mul ⟨_, ho, rfl⟩ F.entry_tuple_mul (F.args_tuple_mul_2 _ _) (tuple_mulW1 l its.toArray n dd sl t) ⟨ho, ⟨.ref l, H, I, rfl, q⟩⟩⟩)
theorem op_rep {l : Addr} {k : Int} {xs : List V} (hT : SqT X.K H l xs) (hne : xs ≠ []) (h1 : 1 ≤ k) (h2 : k ≤ 64) (hz : xs.length ≤ 64) (q1 : k = 1 → Q (.ref l) H) (q2 : k ≠ 1 → ∀ p, H p = none → Q (.ref p) (upd H p (.tup (List.replicate k.toNat xs).flatten))) :
    wpOp X (binaryOp .Mult) (.ref l) (.int k) H Q := by
  by_cases e : k = 1
  · subst e; exact op_rep1 hT (q1 rfl)
  · exact op_repT.wp ⟨l, k, xs, rfl, rfl, hT, hne, by omega, by omega, by omega, q2 e⟩
theorem int_digit (c : Nat) (h1 : 48 ≤ c) (h2 : c ≤ 57) (q : Q (.int (c - 48 : Nat)) H) : wpC X (.type "int") [.str ⟨#[c]⟩] H Q := by
  refine call_int_str.wp ⟨⟨#[c]⟩, (c - 48 : Nat), rfl, ?_, by show 1 ≤ 640; omega, q⟩
  have h := SX.int_S (a := [c]) (by simp [h1, h2]) (by simp) (by simp)
  have e : NumText.digitsVal [c] = c - 48 := by
    have : c = 48 ∨ c = 49 ∨ c = 50 ∨ c = 51 ∨ c = 52 ∨ c = 53 ∨ c = 54 ∨ c = 55 ∨ c = 56 ∨ c = 57 := by omega
    rcases this with rfl | rfl | rfl | rfl | rfl | rfl | rfl | rfl | rfl | rfl <;> decide +kernel
  rw [e] at h
  exact h
end
section
variable {I : Info} {n : Nat}
theorem op_all : ∀ o : Op, RuleO I n (opD o) (opFn o) := by
  intro o N sc X W hc as H S Q dx dy x y rv rx ry s e q
  have hu := hc.room.un
  cases o with
  | add => exact add_ok rx ry s e q
  | sub => exact sub_ok rx ry s e q
  | mul => exact mul_ok (fun l k xs Q hT hne h1 h2 hz q1 q2 => op_rep hT hne h1 h2 hz q1 q2) rx ry s e q
  | fdiv => exact fdiv_ok rx ry s e q
  | mod => exact mod_ok rx ry s e q
  | pow => exact pow_ok rx ry s e q
  | eq => exact eq_ok (by omega) rx ry s e q
  | ne => exact ne_ok (by omega) rx ry s e q
  | lt => exact lt_ok (by omega) rx ry s e q
  | le => exact le_ok (by omega) rx ry s e q
  | gt => exact gt_ok rx ry s e q
  | ge => exact ge_ok rx ry s e q
  | mem =>
    have e' : ((inD dx dy).map fun r => RV.d (.bl r)) = some rv := e
    cases h : inD dx dy with
    | none => rw [h] at e'; cases e'
    | some b =>
      rw [h] at e'; cases e'
      exact mem_ok (neg := false) (by omega) rx ry s h q
  | nmem =>
    have e' : ((inD dx dy).map fun r => RV.d (.bl (!r))) = some rv := e
    cases h : inD dx dy with
    | none => rw [h] at e'; cases e'
    | some b =>
      rw [h] at e'; cases e'
      exact mem_ok (neg := true) (by omega) rx ry s h q
theorem bi_all : ∀ (b : Bi) (fn : Value), biFn b = some fn → RuleC I n (biD I.T.sub b) fn := by
  intro b fn h N sc X W hc as H S Q ds vs rv r s e q
  cases b <;> first | (cases h; done) | cases h
  · exact len_ok r s e q
  · exact sum_ok hc.calm r s e q
  · exact min_ok hc r s e q
  · exact max_ok hc r s e q
  · exact all_ok hc.calm r s e q
  · exact any_ok hc.calm r s e q
  · exact sorted_ok hc r s e q
  · exact tuple_ok r s e q
  · exact list_ok r s e q
  · exact int_ok (fun c h1 h2 Q q => int_digit c h1 h2 q) r s e q
  · exact str_ok r s e q
  · exact abs_ok r s e q
/-- no == of one's own is met -/
theorem obj_none (h : I.T.eqf = []) : ∀ (o : Op) (N : List Str) (sc : Scope) (X : Cx) (W : WX), Cn I n N sc X W → ∀ (as : List Addr) (H : Hp) (S : Sto) (Q : VK) (σ : L2.St) (c : Nat) (xs : List D) (dy : D) (x y : V),
    srel X.K I.ct as H (.obj c xs) x → srel X.K I.ct as H dy y → SRel X.K I.ct as H S → Good X.K I.ct W as (opR (I.g n) o (.d (.obj c xs)) (.d dy) S) H σ (ResQ X.K I.ct as H Q) → wpOp X (opFn o) x y H Q := by
  intro o N sc X W hc as H S Q σ c xs dy x y rx ry s g
  have e : opR (I.g n) o (.d (.obj c xs)) (.d dy) S = .fail := by
    unfold opR
    have he : (I.g n).eqf = [] := h
    cases o <;> simp [RV.see, he]
  rw [e] at g
  exact g.elim
theorem hyp_none (h : I.T.eqf = []) : Hyp I n where
  bi := bi_all
  lenSet := fun N sc X W hc as H S Q ds vs rv r s e q => lenSet_ok hc r s e q
  sortSet := fun N sc X W hc as H S Q ds vs rv r s e q => sortSet_ok hc r s e q
  op := op_all
  obj := obj_none h
theorem dictIn_none : DictIn I n := by
  intro o N sc X W hc as H S Q σ x k kvs dx vx vy rx ry s hk hx g
  have hy : RV.see S (.r k) = none := by simp [RV.see, hk]
  unfold opR at g
  rw [hx, hy] at g
  cases dx <;> first | exact g.elim | (dsimp only at g; rw [hk] at g; cases o <;> exact g.elim)
end
end MI
set_option linter.all false
set_option Elab.async false
set_option maxRecDepth 100000
set_option maxHeartbeats 1000000
namespace MI
open PySem PySem.Spec PyProof.Rows L2
/-! ### a law's text as a datum, and what the head must say of it -/
inductive Loc where
  | glo (x : Str) | met (C m : Str) | prp (C m : Str)
  deriving DecidableEq
def Loc.adr (K : PySem.W.Frag) : Loc → Addr
  | .glo x => He.ga K x
  | .met C m => He.ma K (He.ga K C) m
  | .prp C m => match PySem.W.recIn K (He.ma K (He.ga K C) m) "property" with
    | some (.ref g :: _) => g
    | _ => 0
def Loc.glob : Loc → Option Str
  | .glo x => some x
  | _ => none
structure Dm where
  loc : Loc
  name : Str
  qual : Str
  params : Arguments
  body : List Stmt
  scope : Scope
  N : List Str
def Dm.ps (d : Dm) : List Str := d.params.args.map (·.arg)
def fnA (K : PySem.W.Frag) (a : Addr) : He.FnW := match K.lookup a with
  | some ⟨_, _, .func fd, _⟩ => some (fd.name, fd.qualname, fd.params, fd.body, fd.scope, fd.globals, fd.closure, fd.builtins)
  | _ => none
def Dm.val (d : Dm) : He.FnW := some (d.name, d.qual, d.params, .stmts d.body, d.scope, mainGlobals, [], builtinsNs)
def Dm.ok (K : PySem.W.Frag) (d : Dm) : Bool := PySem.W.keepIn K (.ref (d.loc.adr K)) && (match K.lookup (d.loc.adr K) with
  | some ⟨_, _, .func fd, _⟩ => PySem.W.codeIn K fd.code d.qual && (He.dflB K fd.defaults [] && He.kwdB K fd.kwdefaults [])
  | _ => false)
def fdAt (K : PySem.W.Frag) (a : Addr) : FuncData := match K.lookup a with
  | some ⟨_, _, .func fd, _⟩ => fd
  | _ => PySem.W.fnOf Str.empty Str.empty ⟨[], [], none, [], [], none, []⟩ [] ⟨.function, [], false, false, []⟩ .none .none .none .none none .none .none
theorem Dm.funD {K : PySem.W.Frag} {d : Dm} (e : fnA K (d.loc.adr K) = d.val) (c : d.ok K = true) : FunD K d.name d.qual d.params d.body d.scope [] [] (d.loc.adr K) (fdAt K (d.loc.adr K)) := by
  obtain ⟨kp, c2⟩ := He.ba c
  unfold fnA at e
  unfold fdAt
  cases q : K.lookup (d.loc.adr K) with
  | none => rw [q] at c2; cases c2
  | some o =>
    obtain ⟨oc, od, dt, osl⟩ := o
    rw [q] at c2 e
    cases dt with
    | func fd =>
      obtain ⟨n1, n2, n3, n4, n5, n6, n7, n8, n9, n10, n11, n12, n13, n14, n15⟩ := fd
      have e2 : (some (n1, n2, n3, n4, n5, n6, n7, n15) : He.FnW) = some (d.name, d.qual, d.params, .stmts d.body, d.scope, mainGlobals, [], builtinsNs) := e
      simp only [Option.some.injEq, Prod.mk.injEq] at e2
      obtain ⟨h1, h2, h3, h4, h5, h6, h7, h8⟩ := e2
      subst h1 h2 h3 h4 h5 h6 h7 h8
      have c3 : (PySem.W.codeIn K n13 d.qual && (He.dflB K n8 [] && He.kwdB K n9 [])) = true := c2
      obtain ⟨k1, k2⟩ := He.ba c3
      obtain ⟨k3, k4⟩ := He.ba k2
      exact ⟨⟨oc, od, n8, n9, n10, n11, n12, n13, n14, osl, rfl, q, k1, He.dflB_ok k3, He.kwdB_ok k4⟩, kp⟩
    | _ => cases c2
structure Dsc where
  T : Txt
  dms : List Dm
  cnm : List Str
  gnm : List Str
  obs : List Nat
  mes : List (Nat × Nat × Str)
  prs : List (Nat × Nat × Str)
  nmt : List (Nat × List Str)
  e0 : List Nat
  e1 : List Nat
def nmsOf (t : List (Nat × List Str)) (c : Nat) : List Str := (t.lookup c).getD []
def Dsc.fnm (d : Dsc) : List (Option Str) := d.dms.map fun m => m.loc.glob
def Dsc.ck (d : Dsc) : Ck := ⟨d.T.fds.length, d.fnm, d.cnm, d.gnm, d.obs, d.mes, d.prs, nmsOf d.nmt, d.T.init, d.e0, d.e1⟩
def Dsc.cl (d : Dsc) (c : Nat) : Str := d.cnm.getD c Str.empty
def Dsc.adr (d : Dsc) (K : PySem.W.Frag) (c : Nat) : Addr := He.ga K (d.cl c)
def Dsc.fad (d : Dsc) (K : PySem.W.Frag) (f : Nat) : Addr := match d.dms[f]? with
  | some m => m.loc.adr K
  | none => 0
def Dsc.fps (d : Dsc) (f : Nat) : List Str := match d.dms[f]? with
  | some m => m.ps
  | none => []
def Dsc.info (d : Dsc) (K : PySem.W.Frag) : Info where
  T := d.T
  ct := ⟨d.adr K, nmsOf d.nmt⟩
  fnm := d.fnm
  fad := d.fad K
  ffd := fun f => fdAt K (d.fad K f)
  fps := d.fps
  cnm := d.cnm
  gnm := d.gnm
  obs := d.obs
  mes := d.mes
  prs := d.prs
  e0 := d.e0
  e1 := d.e1
/-! ### what is looked at once, the head aside -/
def plainA (a : Arguments) : Bool := a.posonlyargs.isEmpty && a.vararg.isNone && a.kwonlyargs.isEmpty && a.kwarg.isNone
def scB (d : Dm) : Bool := isFn d.scope && !d.scope.isCoroutine && !d.scope.isGenerator && decide d.N.Nodup && decide (d.N.take d.ps.length = d.ps) && d.ps.all (fun x => decide (d.scope.names.lookup x = some .local) || decide (d.scope.names.lookup x = some .cell)) && d.scope.names.all (fun y => decide (y.2 ≠ .free))
def defB (ck : Ck) (d : Dm) (fd : Fd) : Bool := scB d && plainA d.params && decide d.ps.Nodup && decide (d.N.length = fd.nn) && decide (d.ps.length = fd.np) && decide (fd.np ≤ fd.nn) && okSs ck d.N fd.body d.scope d.body
def locB' (d : Dsc) (f : Nat) (l : Loc) : Bool := match d.dms[f]? with
  | some m => decide (m.loc = l)
  | none => false
def memN (l : List Nat) (c : Nat) : Bool := l.any (· == c)
/-- an error's __init__: its fields by its parameters -/
def initB1 (fs : List Str) (m : Dm) : Bool := match m.body with
  | [.Assign [.Attribute (.Name s _) f _] (.Name p _) _] => decide (s = ("self" : Str)) && decide (m.N = (["self", p] : List Str)) && decide (m.ps = (["self", p] : List Str)) && decide (fs = [f]) && noDbg p && !(p == ("__classdict__" : Str))
  | _ => false
def statB (d : Dsc) : Bool := decide (d.dms.length = d.T.fds.length) && d.nmt.all (fun p => decide p.2.Nodup && decide (p.2.length < 1000)) &&
  d.obs.all (fun c => decide (c < d.cnm.length) && match d.T.init[c]? with
    | some f => locB' d f (.met (d.cl c) "__init__")
    | none => false) &&
  d.mes.all (fun p => memN d.obs p.1 && locB' d p.2.1 (.met (d.cl p.1) p.2.2) && !((nmsOf d.nmt p.1).any fun x => decide (x = p.2.2))) &&
  d.prs.all (fun p => memN d.obs p.1 && locB' d p.2.1 (.prp (d.cl p.1) p.2.2)) &&
  d.e0.all (fun c => decide (c < d.cnm.length)) &&
  decide (d.gnm.length ≤ d.T.globs.length) &&
  d.e1.all (fun c => decide (c < d.cnm.length) && match d.T.init[c]? with
    | some f => locB' d f (.met (d.cl c) "__init__") && (match d.dms[f]? with
      | some m => initB1 (nmsOf d.nmt c) m
      | none => false)
    | none => false)
/-! ### what the head must say -/
def gloB (K : PySem.W.Frag) (x : Str) : D → Bool
  | .int i => (He.Fa.int x i).ok K
  | .str z => (He.Fa.str x ⟨z.toArray⟩).ok K
  | _ => false
def faL (d : Dsc) : List He.Fa := d.fnm.flatMap (fun o => match o with
    | some x => [.glo x, .keep x]
    | none => []) ++ biNames.map He.Fa.free ++ d.cnm.map He.Fa.glo ++ d.obs.flatMap (fun c => [He.Fa.cls (d.cl c), .mkr (d.cl c)] ++ (nmsOf d.nmt c).map (He.Fa.noat (d.cl c))) ++
  d.mes.map (fun p => He.Fa.meth (d.cl p.1) p.2.2) ++ d.e0.map (fun c => He.Fa.exc (d.cl c))
def obB (d : Dsc) (K : PySem.W.Frag) (c : Nat) : Bool := decide (PySem.W.findIn K (.ref (d.adr K c)) "__class__" = some (some (.builtin "object.__class__"))) && decide (PySem.W.specialIn K (.builtin "object.__class__") "__get__" = some (some (.builtin "getset_descriptor.__get__"))) &&
  decide (PySem.W.takesIn K (.builtin "object.__class__") = some true) && decide (PySem.W.mroIn K (d.adr K c) (.type "object") = some true) &&
  tyNames.all (fun s => decide (PySem.W.kitOne K (.ref (d.adr K c)) (.type s) = some false)) && d.obs.all (fun e => decide (PySem.W.kitOne K (.ref (d.adr K c)) (.ref (d.adr K e)) = some (c == e))) &&
  tagNames.all (fun s => decide (PySem.W.kitOne K (.type s) (.ref (d.adr K c)) = some false))
def prB (d : Dsc) (K : PySem.W.Frag) (p : Nat × Nat × Str) : Bool := decide (PySem.W.findIn K (.ref (d.adr K p.1)) p.2.2 = some (some (.ref (He.ma K (d.adr K p.1) p.2.2)))) && decide (PySem.W.specialIn K (.ref (He.ma K (d.adr K p.1) p.2.2)) "__get__" = some (some (.builtin "property.__get__"))) &&
  decide (PySem.W.takesIn K (.ref (He.ma K (d.adr K p.1) p.2.2)) = some true) && (match PySem.W.recIn K (He.ma K (d.adr K p.1) p.2.2) "property" with
    | some (.ref _ :: _) => true
    | _ => false)
def oexB (K : PySem.W.Frag) (C : Addr) : Bool := (match K.lookup C with
  | some ⟨.type "type", _, .cls cd, sl⟩ => (match cd.mro, sl.toList with
    | .ref C' :: bm, [_, _, _, _, some (.builtin n), _] => C' == C && n == "ValueError.__new__" && !cd.hasDel && cd.hasDict && PySem.HandSPX.refsVE bm
    | _, _ => false)
  | _ => false) && He.eqO (PySem.W.findIn K (.ref C) "__setattr__") (some (some (.builtin "object.__setattr__"))) && decide (PySem.W.subIn K (.ref C) (.type "BaseException") = some true) && decide (PySem.W.typeIn K (.ref C) = some (.type "type")) && PySem.W.keepIn K (.ref C)
def e1B (d : Dsc) (K : PySem.W.Frag) (c : Nat) : Bool := oexB K (d.adr K c) && He.eqO (PySem.W.findIn K (.ref (d.adr K c)) "__init__") (some (some (.ref (He.ma K (d.adr K c) "__init__")))) && decide (PySem.W.typeIn K (.ref (He.ma K (d.adr K c) "__init__")) = some (.type "function")) &&
  (nmsOf d.nmt c).all (fun f => He.eqO (PySem.W.findIn K (.ref (d.adr K c)) f) (some none))
def gvB (d : Dsc) (K : PySem.W.Frag) : List Str → List D → Bool
  | x :: xs, v :: vs => gloB K x v && gvB d K xs vs
  | [], _ => true
  | _ :: _, [] => false
def xxB (d : Dsc) (K : PySem.W.Frag) : Bool := (List.range d.T.init.length).all fun c => !d.T.sub c c || (d.e0 ++ d.e1).all fun e => decide (PySem.W.exmOne K (.ref (d.adr K c)) (.ref (d.adr K e)) = some (d.T.sub c e))
def factB (d : Dsc) (K : PySem.W.Frag) : Bool := (faL d).all (fun f => f.ok K) && (d.dms.all (fun m => m.ok K) && (d.obs.all (obB d K) && (d.prs.all (prB d K) && (d.e1.all (e1B d K) && (xxB d K && gvB d K d.gnm d.T.globs)))))
def obsM (d : Dsc) (K : PySem.W.Frag) : He.AlD := (factB d K, d.dms.map fun m => fnA K (m.loc.adr K))
def valM (d : Dsc) : He.AlD := (true, d.dms.map Dm.val)
def obsMG (n : Nat) (d : Dsc) (g : Addr → Option Obj) : He.AlD := obsM d (He.frG g (He.asD g n))
def hookM (n : Nat) (d : Dsc) : PySem.W.Hook where
  α := He.AlD
  obs := fun s => obsMG n d s.heap.get?
  val := fun _ => valM d
  says := fun _ h => ∃ K : PySem.W.Frag, K.In h ∧ obsM d K = valM d
  of := fun _ _ e => ⟨_, He.frG_in, e⟩
  keeps := fun _ _ _ ⟨K, hK, c⟩ k => ⟨K, PySem.W.Frag.In.keeps hK k, c⟩
theorem obsMG_eq {n : Nat} {d : Dsc} {g : Addr → Option Obj} {s : Shared} (h : ∀ a, g a = s.heap.get? a) : obsMG n d g = (hookM n d).obs s := by
  have e : g = s.heap.get? := funext h
  rw [e] <;> rfl
/-- a call by the parameters alone -/
theorem lookup_zip : ∀ {ps : List Str} {us : List Value}, ps.Nodup → us.length = ps.length → ∀ (i : Nat) (x : Str) (u : Value), ps[i]? = some x → us[i]? = some u → (ps.zip us).lookup x = some u
  | [], _, _, _, i, x, u, h, _ => by simp at h
  | p :: ps, [], _, hl, _, _, _, _, _ => by simp at hl
  | p :: ps, v :: us, nd, hl, i, x, u, h1, h2 => by
    obtain ⟨n1, n2⟩ := List.nodup_cons.mp nd
    cases i with
    | zero =>
      simp at h1 h2
      subst h1 h2
      simp [List.lookup]
    | succ i =>
      have h1' : ps[i]? = some x := by simpa using h1
      have hne : (x == p) = false := by
        rw [beq_eq_false_iff_ne]
        rintro rfl
        exact n1 (List.mem_of_getElem? h1')
      simp only [List.zip_cons_cons, List.lookup, hne]
      exact lookup_zip n2 (by simpa using hl) i x u h1' (by simpa using h2)
theorem zip_filterMap : ∀ {ps : List Str} {us : List Value} {L : List (Str × Value)}, us.length = ps.length → (∀ (i : Nat) (x : Str) (u : Value), ps[i]? = some x → us[i]? = some u → L.lookup x = some u) → ps.filterMap (fun n => (L.lookup n).map (n, ·)) = ps.zip us
  | [], us, L, _, _ => by simp
  | p :: ps, [], L, hl, _ => by simp at hl
  | p :: ps, u :: us, L, hl, h => by
    rw [List.filterMap_cons, h 0 p u rfl rfl]
    simp only [Option.map_some, List.zip_cons_cons]
    rw [zip_filterMap (us := us) (by simpa using hl) fun i x v h1 h2 => h (i + 1) x v (by simpa using h1) (by simpa using h2)]
theorem bind_plain {x qual : Str} {a : Arguments} {body : List Stmt} {scope : Scope} {kV doc pm : Value} {an : Option Addr} {cdv ct : Value} {us : List Value} (h : plainA a = true) (nd : (a.args.map (·.arg)).Nodup) (hl : us.length = (a.args.map (·.arg)).length) :
    bindArgs (PySem.W.fnOf x qual a body scope .none kV doc pm an cdv ct) ⟨us, []⟩ = pure ((a.args.map (·.arg)).zip us) := by
  obtain ⟨po, ar, va, ko, kd, kw, df⟩ := a
  unfold plainA at h
  simp only [Bool.and_eq_true, List.isEmpty_iff, Option.isNone_iff_eq_none] at h
  obtain ⟨⟨⟨rfl, rfl⟩, rfl⟩, rfl⟩ := h
  have look := lookup_zip nd hl
  have miss : (List.filter (fun n => (List.lookup n ((ar.map (·.arg)).zip us)).isNone) (ar.map (·.arg))) = [] := by
    rw [List.filter_eq_nil_iff]
    intro y hy
    obtain ⟨i, hi⟩ := List.getElem?_of_mem hy
    have hlt : i < us.length := by rw [hl]; exact (List.getElem?_eq_some_iff.mp hi).1
    rw [look i y us[i] hi (List.getElem?_eq_getElem hlt)]
    simp
  have fm := zip_filterMap hl look
  unfold bindArgs PySem.W.fnOf
  dsimp only at hl look miss fm ⊢
  have hs : seqItems? .none = pure none := rfl
  rw [hs]
  simp only [List.map_nil, List.nil_append, List.append_nil, List.forIn_nil, pure_bind, Option.getD_none, List.drop_nil, List.length_nil, Nat.sub_zero, Nat.zero_sub]
  simp only [hl, gt_iff_lt, Nat.lt_irrefl, decide_false, Bool.false_and, Bool.false_eq_true, if_false, List.length_map, List.take_length, List.drop_length]
  have tk : List.take ar.length (ar.map (·.arg)) = ar.map (·.arg) := by
    rw [List.take_of_length_le (by simp)]
  simp only [tk, miss, List.isEmpty_nil, Bool.not_true, Bool.false_eq_true, if_false, pure_bind, List.zip_nil_right, List.forIn_nil]
  rw [fm]
theorem memN_ok {l : List Nat} {c : Nat} (h : memN l c = true) : c ∈ l := by
  unfold memN at h
  obtain ⟨x, h1, h2⟩ := List.any_eq_true.mp h
  rw [beq_iff_eq] at h2
  exact h2 ▸ h1
theorem scB_ok {d : Dm} (h : scB d = true) : FnScope d.N d.ps d.scope := by
  unfold scB at h
  simp only [Bool.and_eq_true, Bool.not_eq_true', decide_eq_true_eq, List.all_eq_true, Bool.or_eq_true] at h
  obtain ⟨⟨⟨⟨⟨⟨h1, h2⟩, h3⟩, h4⟩, h5⟩, h6⟩, h7⟩ := h
  exact ⟨fn_kind h1, h2, h3, h4, h5, h6, h7⟩
theorem nms_nd {t : List (Nat × List Str)} (h : t.all (fun p => decide p.2.Nodup && decide (p.2.length < 1000)) = true) (c : Nat) : (nmsOf t c).Nodup ∧ (nmsOf t c).length < 1000 := by
  unfold nmsOf
  cases e : t.lookup c with
  | none => exact ⟨List.nodup_nil, by simp⟩
  | some l =>
    have hm : (c, l) ∈ t := by
      induction t with
      | nil => simp at e
      | cons p t ih =>
        obtain ⟨k, v⟩ := p
        rw [List.all_cons, Bool.and_eq_true] at h
        by_cases hk : c = k
        · subst hk
          simp [List.lookup] at e
          subst e
          simp
        · have : (c == k) = false := by simpa using hk
          simp only [List.lookup, this] at e
          exact List.mem_cons_of_mem _ (ih h.2 e)
    have := List.all_eq_true.mp h _ hm
    simp only [Bool.and_eq_true, decide_eq_true_eq] at this
    exact this
section
variable {d : Dsc} {K : PySem.W.Frag} {h : Heap} {mg : Str → Option Value}
structure Says (d : Dsc) (K : PySem.W.Frag) : Prop where
  fa : ∀ f ∈ faL d, f.ok K = true
  dm : ∀ m ∈ d.dms, FunD K m.name m.qual m.params m.body m.scope [] [] (m.loc.adr K) (fdAt K (m.loc.adr K))
  ob : ∀ c ∈ d.obs, obB d K c = true
  pr : ∀ p ∈ d.prs, prB d K p = true
  e1 : ∀ c ∈ d.e1, e1B d K c = true
  gv : gvB d K d.gnm d.T.globs = true
  xx : xxB d K = true
theorem says_of (e : obsM d K = valM d) : Says d K := by
  have e1 : factB d K = true := congrArg (·.1) e
  have e2 : (d.dms.map fun m => fnA K (m.loc.adr K)) = d.dms.map Dm.val := congrArg (·.2) e
  unfold factB at e1
  simp only [Bool.and_eq_true, List.all_eq_true] at e1
  obtain ⟨h1, h2, h3, h4, h5, h7, h6⟩ := e1
  refine ⟨h1, fun m hm => Dm.funD ?_ (h2 m hm), h3, h4, h5, h6, h7⟩
  obtain ⟨i, hi⟩ := List.getElem?_of_mem hm
  have := congrArg (·[i]?) e2
  simp only [List.getElem?_map, hi, Option.map_some, Option.some.injEq] at this
  exact this
theorem cl_of {c : Nat} {x : Str} (h : d.cnm[c]? = some x) : d.cl c = x := by
  unfold Dsc.cl
  rw [List.getD_eq_getElem?_getD, h]; rfl
theorem cl_mem {c : Nat} (h : c < d.cnm.length) : d.cnm[c]? = some (d.cl c) := by
  unfold Dsc.cl
  rw [List.getD_eq_getElem?_getD, List.getElem?_eq_getElem h]; rfl
theorem fad_of {f : Nat} {l : Loc} (h : locB' d f l = true) : d.fad K f = l.adr K := by
  unfold locB' at h
  unfold Dsc.fad
  split at h
  · rw [of_decide_eq_true h]
  · cases h
theorem glob_ok (X : K.In h) (G : h.Ns mainGlobals mg) : ∀ {xs : List Str} {vs : List D}, gvB d K xs vs = true → ∀ (i : Nat) (x : Str), xs[i]? = some x → ∃ v u w, vs[i]? = some v ∧ mg x = some u ∧ RelV w u ∧ ∀ as H, rel K (d.info K).ct as H v w
  | [], vs, _, i, x, hi => by simp at hi
  | y :: xs, [], hg, i, x, hi => by unfold gvB at hg; cases hg
  | y :: xs, v :: vs, hg, i, x, hi => by
    unfold gvB at hg
    rw [Bool.and_eq_true] at hg
    cases i with
    | zero =>
      simp at hi
      subst hi
      have h1 := hg.1
      cases v <;> first | (unfold gloB at h1; cases h1; done) | skip
      · rename_i j
        obtain ⟨t, e⟩ := He.int_ok X G (show (He.Fa.int y j).ok K = true from h1)
        exact ⟨_, _, .int j, rfl, e, ⟨t, rfl⟩, fun as H => by unfold rel; rfl⟩
      · rename_i z
        obtain ⟨t, e⟩ := He.str_ok X G (show (He.Fa.str y ⟨z.toArray⟩).ok K = true from h1)
        exact ⟨_, _, .str ⟨z.toArray⟩, rfl, e, ⟨t, rfl⟩, fun as H => by unfold rel; rfl⟩
    | succ i => simpa using glob_ok X G hg.2 i x (by simpa using hi)
theorem fa_fnm {x : Str} {f : Nat} (h : d.fnm[f]? = some (some x)) : He.Fa.glo x ∈ faL d ∧ He.Fa.keep x ∈ faL d := by
  have hm := List.mem_of_getElem? h
  have : ∀ z, z = He.Fa.glo x ∨ z = He.Fa.keep x → z ∈ faL d := fun z hz => by
    unfold faL
    simp only [List.mem_append, List.mem_flatMap]
    exact .inl (.inl (.inl (.inl (.inl ⟨some x, hm, by rcases hz with rfl | rfl <;> simp⟩))))
  exact ⟨this _ (.inl rfl), this _ (.inr rfl)⟩
theorem fa_free {x : Str} (h : x ∈ biNames) : He.Fa.free x ∈ faL d := by
  unfold faL
  simp only [List.mem_append, List.mem_map]
  exact .inl (.inl (.inl (.inl (.inr ⟨x, h, rfl⟩))))
theorem fa_cnm {x : Str} (h : x ∈ d.cnm) : He.Fa.glo x ∈ faL d := by
  unfold faL
  simp only [List.mem_append, List.mem_map]
  exact .inl (.inl (.inl (.inr ⟨x, h, rfl⟩)))
theorem fa_obs {c : Nat} (h : c ∈ d.obs) : He.Fa.cls (d.cl c) ∈ faL d ∧ He.Fa.mkr (d.cl c) ∈ faL d ∧ ∀ f ∈ nmsOf d.nmt c, He.Fa.noat (d.cl c) f ∈ faL d := by
  have : ∀ z, (z = He.Fa.cls (d.cl c) ∨ z = He.Fa.mkr (d.cl c) ∨ ∃ f ∈ nmsOf d.nmt c, He.Fa.noat (d.cl c) f = z) → z ∈ faL d := fun z hz => by
    unfold faL
    simp only [List.mem_append, List.mem_flatMap]
    refine .inl (.inl (.inr ⟨c, h, ?_⟩))
    rcases hz with rfl | rfl | ⟨f, hf, rfl⟩
    · simp
    · simp
    · exact .inr (List.mem_map.mpr ⟨f, hf, rfl⟩)
  exact ⟨this _ (.inl rfl), this _ (.inr (.inl rfl)), fun f hf => this _ (.inr (.inr ⟨f, hf, rfl⟩))⟩
theorem fa_mes {p : Nat × Nat × Str} (h : p ∈ d.mes) : He.Fa.meth (d.cl p.1) p.2.2 ∈ faL d := by
  unfold faL
  simp only [List.mem_append, List.mem_map]
  exact .inl (.inr ⟨p, h, rfl⟩)
theorem fa_e0 {c : Nat} (h : c ∈ d.e0) : He.Fa.exc (d.cl c) ∈ faL d := by
  unfold faL
  simp only [List.mem_append, List.mem_map]
  exact .inr ⟨c, h, rfl⟩
theorem oexB_ok {C : Addr} (h : oexB K C = true) : OexC K C := by
  unfold oexB at h
  simp only [Bool.and_eq_true, decide_eq_true_eq] at h
  obtain ⟨⟨⟨⟨h1, h2⟩, h3⟩, h4⟩, h5⟩ := h
  refine ⟨?_, He.eqO_ok h2, h3, h4, h5⟩
  split at h1
  · rename_i dd cd sl ho
    split at h1
    · rename_i C' bm k0 k1 k2 k3 n k5 hm hs
      simp only [Bool.and_eq_true, beq_iff_eq, Bool.not_eq_true'] at h1
      obtain ⟨⟨⟨⟨rfl, rfl⟩, hdel⟩, hd⟩, hb⟩ := h1
      obtain ⟨nm, bs, mro, ns, qn, hdc, sn, sub, ab, col, del⟩ := cd
      dsimp only at hm hdel hd
      subst hm hdel hd
      have hsl : sl = #[k0, k1, k2, k3, some (.builtin "ValueError.__new__"), k5] := by
        obtain ⟨l⟩ := sl
        simp only at hs
        rw [hs]
      subst hsl
      exact ⟨nm, qn, ns, bs, bm, sn, sub, ab, col, dd, k0, k1, k2, k3, k5, ho, hb⟩
    · cases h1
  · cases h1
structure Stat (d : Dsc) : Prop where
  len : d.dms.length = d.T.fds.length
  nd : d.nmt.all (fun p => decide p.2.Nodup && decide (p.2.length < 1000)) = true
  obs : ∀ c ∈ d.obs, c < d.cnm.length ∧ ∃ f, d.T.init[c]? = some f ∧ locB' d f (.met (d.cl c) "__init__") = true
  mes : ∀ p ∈ d.mes, p.1 ∈ d.obs ∧ locB' d p.2.1 (.met (d.cl p.1) p.2.2) = true ∧ p.2.2 ∉ nmsOf d.nmt p.1
  prs : ∀ p ∈ d.prs, p.1 ∈ d.obs ∧ locB' d p.2.1 (.prp (d.cl p.1) p.2.2) = true
  e0 : ∀ c ∈ d.e0, c < d.cnm.length
  e1 : ∀ c ∈ d.e1, c < d.cnm.length ∧ ∃ f m, d.T.init[c]? = some f ∧ locB' d f (.met (d.cl c) "__init__") = true ∧ d.dms[f]? = some m ∧ initB1 (nmsOf d.nmt c) m = true
theorem stat_of (e : statB d = true) : Stat d := by
  unfold statB at e
  simp only [Bool.and_eq_true, decide_eq_true_eq, List.all_eq_true (p := fun c => _), Bool.not_eq_true'] at e
  obtain ⟨⟨⟨⟨⟨⟨⟨h1, h2⟩, h3⟩, h4⟩, h5⟩, h6⟩, h7⟩, h8⟩ := e
  refine ⟨h1, ?_, fun c hc => ?_, fun p hp => ?_, fun p hp => ?_, h6, fun c hc => ?_⟩
  · rw [List.all_eq_true]
    intro p hp
    have := h2 p hp
    simp only [Bool.and_eq_true, decide_eq_true_eq]
    exact this
  · obtain ⟨a, b⟩ := h3 c hc
    refine ⟨a, ?_⟩
    split at b
    · rename_i f hf; exact ⟨f, hf, b⟩
    · cases b
  · obtain ⟨⟨a, b⟩, c⟩ := h4 p hp
    refine ⟨memN_ok a, b, fun z => ?_⟩
    rw [List.any_eq_false] at c
    exact c _ z (by simp)
  · obtain ⟨a, b⟩ := h5 p hp
    exact ⟨memN_ok a, b⟩
  · obtain ⟨a, b⟩ := h8 c hc
    refine ⟨a, ?_⟩
    split at b
    · rename_i f hf
      rw [Bool.and_eq_true] at b
      obtain ⟨b1, b2⟩ := b
      split at b2
      · rename_i m hm; exact ⟨f, m, hf, b1, hm, b2⟩
      · cases b2
    · cases b
theorem ws_ok (X : K.In h) (G : h.Ns mainGlobals mg) (sy : Says d K) (st : Stat d) : Ws (d.info K) K mg where
  cls := fun c hc => He.cls_ok (sy.fa _ (fa_obs hc).1)
  nat := fun c hc f hf => He.noat_ok (sy.fa _ ((fa_obs hc).2.2 f hf))
  nnd := fun c => nms_nd st.nd c
  mkc := fun c hc f hf => by
    obtain ⟨h1, g, h2, h3⟩ := st.obs c hc
    have hf' : d.T.init[c]? = some f := hf
    rw [h2] at hf'
    cases hf'
    have := He.mkr_ok (sy.fa _ (fa_obs hc).2.1)
    show Mk K (d.adr K c) (d.fad K f)
    rw [fad_of h3]
    exact this
  cn := fun c x hx => by
    have := He.glo_ok X G (sy.fa _ (fa_cnm (List.mem_of_getElem? hx)))
    show mg x = some (.ref (He.ga K (d.cl c)))
    rw [cl_of hx]
    exact this
  me := fun c f m hm => by
    obtain ⟨h1, h2, h3⟩ := st.mes _ hm
    refine ⟨h1, ?_, h3⟩
    show Meth K (d.adr K c) m (d.fad K f)
    rw [fad_of h2]
    exact He.meth_ok (sy.fa _ (fa_mes hm))
  e0 := fun c hc => He.exc_ok (sy.fa _ (fa_e0 hc))
  ty := fun c hc => by
    have := sy.ob c hc
    unfold obB at this
    simp only [Bool.and_eq_true, decide_eq_true_eq] at this
    exact ⟨this.1.1.1.1.1.1, this.1.1.1.1.1.2, this.1.1.1.1.2, this.1.1.1.2⟩
  kct := fun c hc s hs => by
    have := sy.ob c hc
    unfold obB at this
    simp only [Bool.and_eq_true, decide_eq_true_eq, List.all_eq_true] at this
    exact this.1.1.2 s hs
  kcc := fun c hc e he => by
    have := sy.ob c hc
    unfold obB at this
    simp only [Bool.and_eq_true, decide_eq_true_eq, List.all_eq_true] at this
    exact this.1.2 e he
  ktc := fun c hc s hs => by
    have := sy.ob c hc
    unfold obB at this
    simp only [Bool.and_eq_true, decide_eq_true_eq, List.all_eq_true] at this
    exact this.2 s hs
  xx := fun c hc hs e he => by
    have := sy.xx
    unfold xxB at this
    rw [List.all_eq_true] at this
    have h1 := this c (List.mem_range.mpr hc)
    rw [Bool.or_eq_true, List.all_eq_true] at h1
    rcases h1 with h1 | h1
    · have hs' : d.T.sub c c = true := hs
      rw [hs'] at h1
      cases h1
    · exact of_decide_eq_true (h1 e he)
  pr := fun c f m hm => by
    obtain ⟨h1, h2⟩ := st.prs _ hm
    refine ⟨h1, He.ma K (d.adr K c) m, ?_⟩
    show PropOf K (d.adr K c) m (He.ma K (d.adr K c) m) (d.fad K f)
    rw [fad_of h2]
    have := sy.pr _ hm
    unfold prB at this
    simp only [Bool.and_eq_true, decide_eq_true_eq] at this
    obtain ⟨⟨⟨a1, a2⟩, a3⟩, a4⟩ := this
    refine ⟨a1, a2, a3, ?_⟩
    cases hr : PySem.W.recIn K (He.ma K (d.adr K c) m) "property" with
    | none => rw [hr] at a4; cases a4
    | some l =>
      rw [hr] at a4
      cases l with
      | nil => cases a4
      | cons v r =>
        cases v <;> first | (cases a4; done) | skip
        rename_i g
        refine ⟨r, ?_⟩
        have e : Loc.adr K (.prp (d.cl c) m) = g := by
          show (match PySem.W.recIn K (He.ma K (He.ga K (d.cl c)) m) "property" with
            | some (.ref k :: _) => k
            | _ => 0) = g
          have hr' : PySem.W.recIn K (He.ma K (He.ga K (d.cl c)) m) "property" = some (.ref g :: r) := hr
          rw [hr']
        rw [e]
theorem binds_of {m : Dm} (F : FunD K m.name m.qual m.params m.body m.scope [] [] (m.loc.adr K) (fdAt K (m.loc.adr K))) (h1 : plainA m.params = true) (h2 : m.ps.Nodup) : Binds K (fdAt K (m.loc.adr K)) m.ps [] :=
  FunD.bindsN F fun _ _ _ _ _ _ us hl => bind_plain h1 h2 hl
theorem facts_ok (X : K.In h) (G : h.Ns mainGlobals mg) (sy : Says d K) (st : Stat d) (df : ∀ (f : Nat) (m : Dm) (fd : Fd), d.dms[f]? = some m → d.T.fds[f]? = some fd → defB d.ck m fd = true) : Facts (d.info K) d.ck K mg where
  defs := fun f fd hfd => by
    have hlt : f < d.dms.length := by rw [st.len]; exact (List.getElem?_eq_some_iff.mp hfd).1
    have hm := List.getElem?_eq_getElem hlt
    have hb := df f _ fd hm hfd
    unfold defB at hb
    simp only [Bool.and_eq_true, decide_eq_true_eq] at hb
    obtain ⟨⟨⟨⟨⟨⟨b1, b2⟩, b3⟩, b4⟩, b5⟩, b6⟩, b7⟩ := hb
    have F := sy.dm _ (List.mem_of_getElem? hm)
    have ef : d.fad K f = d.dms[f].loc.adr K := by unfold Dsc.fad; rw [hm]
    have ep : d.fps f = d.dms[f].ps := by unfold Dsc.fps; rw [hm]
    refine ⟨d.dms[f].name, d.dms[f].qual, d.dms[f].params, d.dms[f].body, d.dms[f].scope, d.dms[f].N, ?_, ?_, b4, ?_, b6, b7⟩
    · show FunD K _ _ _ _ _ [] [] (d.fad K f) (fdAt K (d.fad K f))
      rw [ef]; exact F
    · show FnScope _ (d.fps f) _
      rw [ep]; exact scB_ok b1
    · show (d.fps f).length = _
      rw [ep]; exact b5
  bnd := fun f fd hfd => by
    have hlt : f < d.dms.length := by rw [st.len]; exact (List.getElem?_eq_some_iff.mp hfd).1
    have hm := List.getElem?_eq_getElem hlt
    have hb := df f _ fd hm hfd
    unfold defB at hb
    simp only [Bool.and_eq_true, decide_eq_true_eq] at hb
    obtain ⟨⟨⟨⟨⟨⟨b1, b2⟩, b3⟩, b4⟩, b5⟩, b6⟩, b7⟩ := hb
    have F := sy.dm _ (List.mem_of_getElem? hm)
    have ef : d.fad K f = d.dms[f].loc.adr K := by unfold Dsc.fad; rw [hm]
    have ep : d.fps f = d.dms[f].ps := by unfold Dsc.fps; rw [hm]
    show Binds K (fdAt K (d.fad K f)) (d.fps f) []
    rw [ef, ep]
    exact binds_of F b2 b3
  gl := fun f x hx => by
    obtain ⟨g1, g2⟩ := fa_fnm hx
    have e : d.fad K f = He.ga K x := by
      have hx' : (d.dms[f]?).map (fun m => m.loc.glob) = some (some x) := by rw [← List.getElem?_map]; exact hx
      unfold Dsc.fad
      cases hm : d.dms[f]? with
      | none => rw [hm] at hx'; cases hx'
      | some m =>
        rw [hm] at hx'
        have hg : m.loc.glob = some x := Option.some.inj hx'
        cases hl : m.loc <;> rw [hl] at hg <;> cases hg
        show m.loc.adr K = _
        rw [hl]; rfl
    refine ⟨?_, ?_⟩
    · show mg x = some (.ref (d.fad K f))
      rw [e]; exact He.glo_ok X G (sy.fa _ g1)
    · show PySem.W.keepIn K (.ref (d.fad K f)) = true
      rw [e]; exact He.keep_ok (sy.fa _ g2)
  bi := fun x hx => He.free_ok X G (sy.fa _ (fa_free hx))
  co := fun i x hx => glob_ok X G sy.gv i x hx
  ck := ⟨rfl, rfl, rfl, rfl, rfl, rfl, rfl, rfl, rfl, rfl, rfl⟩
  ws := ws_ok X G sy st
theorem err_ok {P : Program} {w : World} {base : Heap} (sy : Says d K) (st : Stat d) (df : ∀ (f : Nat) (m : Dm) (fd : Fd), d.dms[f]? = some m → d.T.fds[f]? = some fd → defB d.ck m fd = true) : ErrOk (d.info K) P w K mg base := by
  intro c hc
  obtain ⟨h1, f, m, h2, h3, h4, h5⟩ := st.e1 c hc
  have hk := sy.e1 c hc
  unfold e1B at hk
  simp only [Bool.and_eq_true, decide_eq_true_eq, List.all_eq_true] at hk
  obtain ⟨⟨⟨k1, k2⟩, k3⟩, k4⟩ := hk
  have O : OexC K ((d.info K).ct.adr c) := oexB_ok k1
  have F := sy.dm m (List.mem_of_getElem? h4)
  have hlt : f < d.T.fds.length := by rw [← st.len]; exact (List.getElem?_eq_some_iff.mp h4).1
  have hb := df f m _ h4 (List.getElem?_eq_getElem hlt)
  unfold defB at hb
  simp only [Bool.and_eq_true, decide_eq_true_eq] at hb
  obtain ⟨⟨⟨⟨⟨⟨b1, b2⟩, b3⟩, b4⟩, b5⟩, b6⟩, b7⟩ := hb
  have el : m.loc = .met (d.cl c) "__init__" := by
    unfold locB' at h3
    rw [h4] at h3
    exact of_decide_eq_true h3
  have ea : m.loc.adr K = He.ma K (d.adr K c) "__init__" := by rw [el]; rfl
  have S := scB_ok b1
  refine ⟨O, m.loc.adr K, fdAt K (m.loc.adr K), m.ps, ?_, ?_, ?_, binds_of F b2 b3⟩
  · show PySem.W.findIn K (.ref (d.adr K c)) "__init__" = _
    rw [ea]
    exact He.eqO_ok k2
  · rw [ea]; exact k3
  · unfold initB1 at h5
    split at h5
    · rename_i s p1 g p2 p p3 p4 hbody
      simp only [Bool.and_eq_true, decide_eq_true_eq, Bool.not_eq_true'] at h5
      obtain ⟨⟨⟨⟨⟨rfl, e2⟩, e3⟩, e4⟩, e5⟩, e6⟩ := h5
      rw [hbody] at F
      rw [e2, e3] at S
      rw [e3]
      refine init1_ok F S O ?_ e4 (dbg_of e5) e6
      exact He.eqO_ok (k4 g (by rw [e4]; simp))
    · cases h5
/-- a law's def, over every base -/
theorem law_facts {P : Program} {w : World} {f : Addr} {n iL : Nat} {m : Dm} {fd : Fd} (X : K.In h) (G : h.Ns mainGlobals mg) (says : obsM d K = valM d) (st : statB d = true) (df : ∀ (f : Nat) (m : Dm) (fd : Fd), d.dms[f]? = some m → d.T.fds[f]? = some fd → defB d.ck m fd = true)
    (hy : ∀ n, Hyp (d.info K) n) (hdi : ∀ n, DictIn (d.info K) n) (hd : DictPut (d.info K)) (hm : d.dms[iL]? = some m) (hfd : d.T.fds[iL]? = some fd) (hl : m.loc = .glo "law") (hfa : mg ("law" : Str) = some (.ref f)) :
    (∀ (s : Shared) (us : List Value), us.length = m.ps.length → BindsTo s (fdAt K f) ⟨us, []⟩ (m.ps.zip us)) ∧ ∀ base : Heap, K.In base → base.Ns mainGlobals mg → FnOk P w K mg base (L2.CX P w) (2 * n + 1) f (fdAt K f) m.ps (spM (d.info K) K n iL) := by
  have sy := says_of says
  have s := stat_of st
  have F := sy.dm m (List.mem_of_getElem? hm)
  have hb := df iL m fd hm hfd
  unfold defB at hb
  simp only [Bool.and_eq_true, decide_eq_true_eq] at hb
  obtain ⟨⟨⟨⟨⟨⟨b1, b2⟩, b3⟩, b4⟩, b5⟩, b6⟩, b7⟩ := hb
  have ef : f = m.loc.adr K := by
    have g := He.glo_ok X G (sy.fa _ (fa_fnm (d := d) (f := iL) (x := "law") (by unfold Dsc.fnm; rw [List.getElem?_map, hm, Option.map_some, hl]; rfl)).1)
    rw [hfa] at g
    cases g
    rw [hl]; rfl
  subst ef
  refine ⟨fun s us hu => FunD.bindsA F (fun _ _ _ _ _ _ us hl => bind_plain b2 b3 hl) s us hu, fun base Xb Gb => ?_⟩
  have fa := facts_ok Xb Gb sy s df
  have q := (wf_all (P := P) (w := w) (base := base) hy hdi hd fa (err_ok sy s df) n).fns iL fd hfd
  have e1 : (d.info K).fad iL = m.loc.adr K := by show d.fad K iL = _; unfold Dsc.fad; rw [hm]
  have e2 : (d.info K).fps iL = m.ps := by show d.fps iL = _; unfold Dsc.fps; rw [hm]
  have e3 : (d.info K).ffd iL = fdAt K (m.loc.adr K) := by show fdAt K (d.fad K iL) = _; rw [show d.fad K iL = m.loc.adr K from e1]
  rw [e1, e2, e3] at q
  exact q
end
/-- a law's end, where errors may fly -/
theorem walk_ofEC {l : PySem.W.OpenLaw} {n k : Nat} {q : Program} {loose : List Str} {XP : (Str → Option Value) → Heap → Prop} {YP : World → Heap → Prop} {d : DefRec} {CX : World → CXT} {x : Str}
    (hn : l.most = some n) (hn2 : n ≤ sizeLine) (hdf : d.params.defaults = []) (hr : Room k callerA)
    (F : ∀ (w : World) (mg : Str → Option Value) (fa : Addr) (h : Heap), YP w h → h.Ns mainGlobals mg → mg d.name = some (.ref fa) →
      ∃ (K : PySem.W.Frag) (fd : FuncData) (sp : Sp), K.In h ∧ (∀ (s : Shared) (u : Value), BindsTo s fd ⟨[u], []⟩ [(x, u)]) ∧
        (∀ (H : Hp) (a : Addr) (ns : List Int), ns.length ≤ n → Only H → SqL K H a (ns.map V.int) → sp [.ref a] H (fun v _ => v = .bl true) fun _ _ _ => False) ∧
        ∀ base : Heap, K.In base → base.Ns mainGlobals mg → FnOk l.prog w K mg base (CX w) k fa fd [x] sp)
    (hCX : ∀ (w : World) (H : Hp) (s : Shared) (e : Value) (s' : Shared), CX w [] H s (fun _ _ _ => False) e s' → False) :
    PySem.W.WalkO q loose XP YP l.row.toRowW d [] (fun f vs => PySem.call f vs) := by
  refine Att.attach_call hn hdf fun w s₀ s₁ mg mb fa o pm cd doc a vs ns G Y ho hd hcd hmg hobj hints hlen hg => ?_
  obtain ⟨K, fd, sp, KX, hb, hsp, hF⟩ := F w mg fa _ Y G.T.g hmg
  exact law_call KX G.T.g G.T.b G.T.builtins G.T.nolimit hg hobj hints (Nat.le_trans hlen hn2) hr hF hb (fun H hO hS => hsp H a ns hlen hO hS) fun H e s' => hCX w H s₁ e s'
end MI
set_option linter.all false
set_option Elab.async false
set_option maxRecDepth 100000
namespace PB
open MI
/-- where a law has the defs, classes, globals that have universal numbers here -/
structure Ix where
  f : Nat → Nat
  c : Nat → Nat
  g : Nat → Nat
  obs : List Nat
abbrev c_GreedError : Nat := 0
abbrev c_BadThings : Nat := 1
abbrev c_BadLots : Nat := 2
abbrev c_Kind : Nat := 3
abbrev c_BadLot : Nat := 4
abbrev c_BadWeights : Nat := 5
abbrev c_BadPlaces : Nat := 6
abbrev c_BadLines : Nat := 7
abbrev c_BadRoot : Nat := 8
abbrev c_BadMost : Nat := 9
abbrev c_BadPairs : Nat := 10
abbrev c_TooMany : Nat := 11
abbrev c_BadThing : Nat := 12
abbrev c_Unlike : Nat := 13
abbrev c_Plan : Nat := 14
abbrev c_BadLine : Nat := 15
abbrev c_BadSeen : Nat := 16
abbrev c_BadWord : Nat := 17
abbrev g_MOST_THINGS : Nat := 0
abbrev g_MOST_WEIGHT : Nat := 1
abbrev g_BEYOND : Nat := 2
abbrev g_STEP : Nat := 3
abbrev g_MOST_PLACES : Nat := 4
abbrev g_MOST_CHANGES : Nat := 5
abbrev g_FIGURES : Nat := 6
abbrev g_MOST_BACK : Nat := 7
abbrev g_WORDS : Nat := 8
abbrev n_BadLots___init__ : Nat := 0
abbrev n_is_integer : Nat := 1
abbrev n_is_from : Nat := 2
abbrev n_is_rising : Nat := 3
abbrev n_Kind___init__ : Nat := 4
abbrev n_Kind_things : Nat := 5
abbrev n_Kind_lots : Nat := 6
abbrev n_Kind___eq__ : Nat := 7
abbrev n_with_thing : Nat := 8
abbrev n_added : Nat := 9
abbrev n_is_lot : Nat := 10
abbrev n_adding : Nat := 11
abbrev n_full : Nat := 12
abbrev n_built : Nat := 13
abbrev n_check_weights : Nat := 14
abbrev n_next_thing : Nat := 15
abbrev n_taken_by : Nat := 16
abbrev n_taken : Nat := 17
abbrev n_best_of : Nat := 18
abbrev n_heaviest : Nat := 19
abbrev n_poorest : Nat := 20
abbrev n_richest : Nat := 21
abbrev n_orders : Nat := 22
abbrev n_falling : Nat := 23
abbrev n_short_of : Nat := 24
abbrev n_weights_against : Nat := 25
abbrev n_fooling : Nat := 26
abbrev n_always : Nat := 27
abbrev n_fooling_least : Nat := 28
abbrev n_always_least : Nat := 29
abbrev n_without_thing : Nat := 30
abbrev n_is_part : Nat := 31
abbrev n_steps : Nat := 32
abbrev n_extends : Nat := 33
abbrev n_lies_within : Nat := 34
abbrev n_parts_of : Nat := 35
abbrev n_agrees : Nat := 36
abbrev n_spreads : Nat := 37
abbrev n_can_grow : Nat := 38
abbrev n_BadLines___init__ : Nat := 39
abbrev n_is_pair : Nat := 40
abbrev n_check_lines : Nat := 41
abbrev n_ends_of : Nat := 42
abbrev n_forests : Nat := 43
abbrev n_grown : Nat := 44
abbrev n_check_most : Nat := 45
abbrev n_subsets : Nat := 46
abbrev n_strikes : Nat := 47
abbrev n_adds : Nat := 48
abbrev n_BadPairs___init__ : Nat := 49
abbrev n_paired : Nat := 50
abbrev n_worked : Nat := 51
abbrev n_joined : Nat := 52
abbrev n_closed_up : Nat := 53
abbrev n_check_thing : Nat := 54
abbrev n_without : Nat := 55
abbrev n_beside : Nat := 56
abbrev n_cut : Nat := 57
abbrev n_parting : Nat := 58
abbrev n_alike : Nat := 59
abbrev n_Plan___init__ : Nat := 60
abbrev n_Plan_kind : Nat := 61
abbrev n_Plan_weights : Nat := 62
abbrev n_Plan_row : Nat := 63
abbrev n_Plan_lot : Nat := 64
abbrev n_Plan___len__ : Nat := 65
abbrev n_Plan_become : Nat := 66
abbrev n_Plan_open_things : Nat := 67
abbrev n_Plan_put : Nat := 68
abbrev n_Plan_take : Nat := 69
abbrev n_Plan_weigh : Nat := 70
abbrev n_Plan_undo : Nat := 71
abbrev n_Plan_redo : Nat := 72
abbrev n_BadLine___init__ : Nat := 73
abbrev n_write : Nat := 74
abbrev n_number_at : Nat := 75
abbrev n_lot_of : Nat := 76
abbrev n_read : Nat := 77
abbrev n_BadSeen___init__ : Nat := 78
abbrev n_is_case : Nat := 79
abbrev n_is_full : Nat := 80
abbrev n_right_fooling : Nat := 81
abbrev n_right_fooling_least : Nat := 82
abbrev n_divisor : Nat := 83
abbrev n_is_less : Nat := 84
abbrev n_all_cases : Nat := 85
abbrev n_worst : Nat := 86
abbrev n_worst_share : Nat := 87
abbrev n_worst_case : Nat := 88
abbrev n_changes : Nat := 89
abbrev n_margin : Nat := 90
abbrev n_nudged : Nat := 91
abbrev n_rows_taken : Nat := 92
abbrev n_weights_for : Nat := 93
abbrev n_are_like : Nat := 94
abbrev n_all_sets : Nat := 95
abbrev n_all_kinds : Nat := 96
abbrev n_check_things : Nat := 97
abbrev n_is_row : Nat := 98
abbrev n_are_weights : Nat := 99
abbrev n_check_seen : Nat := 100
abbrev n_fitting : Nat := 101
abbrev n_is_good : Nat := 102
abbrev n_how_many : Nat := 103
abbrev n_l_random : Nat := 104
abbrev n_l_below : Nat := 105
abbrev n_l_pick : Nat := 106
abbrev n_l_equal : Nat := 107
abbrev n_l_parts : Nat := 108
abbrev n_l_with : Nat := 109
abbrev n_l_lots : Nat := 110
abbrev n_l_told : Nat := 111
abbrev n_law_k01 : Nat := 112
abbrev n_l_added : Nat := 113
abbrev n_l_full : Nat := 114
abbrev n_l_taken : Nat := 115
abbrev n_l_sum : Nat := 116
abbrev n_l_least : Nat := 117
abbrev n_l_weights : Nat := 118
abbrev n_l_built : Nat := 119
abbrev n_l_refused : Nat := 120
abbrev n_law_k02 : Nat := 121
abbrev n_l_refused_k03 : Nat := 122
abbrev n_law_k03 : Nat := 123
abbrev n_l_orders : Nat := 124
abbrev n_l_falling : Nat := 125
abbrev n_l_families : Nat := 126
abbrev n_l_always : Nat := 127
abbrev n_law_k04 : Nat := 128
abbrev n_law_k05 : Nat := 129
abbrev n_l_within : Nat := 130
abbrev n_l_steps : Nat := 131
abbrev n_l_extends : Nat := 132
abbrev n_l_agrees : Nat := 133
abbrev n_l_spreads : Nat := 134
abbrev n_l_first : Nat := 135
abbrev n_law_k06 : Nat := 136
abbrev n_l_holds : Nat := 137
abbrev n_l_closed : Nat := 138
abbrev n_law_k07 : Nat := 139
abbrev n_l_always_k08 : Nat := 140
abbrev n_l_sets : Nat := 141
abbrev n_l_smallest : Nat := 142
abbrev n_l_told_k08 : Nat := 143
abbrev n_law_k08 : Nat := 144
abbrev n_l_met : Nat := 145
abbrev n_l_ringless : Nat := 146
abbrev n_l_told_k09 : Nat := 147
abbrev n_l_lines_refused : Nat := 148
abbrev n_l_work : Nat := 149
abbrev n_law_k09 : Nat := 150
abbrev n_l_less : Nat := 151
abbrev n_l_told_k10 : Nat := 152
abbrev n_l_lessened : Nat := 153
abbrev n_law_k10 : Nat := 154
abbrev n_l_told_k11 : Nat := 155
abbrev n_law_k11 : Nat := 156
abbrev n_l_stands : Nat := 157
abbrev n_l_step : Nat := 158
abbrev n_law_k12 : Nat := 159
abbrev n_l_made : Nat := 160
abbrev n_l_told_k13 : Nat := 161
abbrev n_law_k13 : Nat := 162
abbrev n_l_lines : Nat := 163
abbrev n_law_k14 : Nat := 164
abbrev n_l_number : Nat := 165
abbrev n_l_first_line : Nat := 166
abbrev n_l_lot_line : Nat := 167
abbrev n_l_wrong : Nat := 168
abbrev n_l_spoilt : Nat := 169
abbrev n_l_told_k15 : Nat := 170
abbrev n_law_k15 : Nat := 171
abbrev n_l_one : Nat := 172
abbrev n_l_classes : Nat := 173
abbrev n_law_k16 : Nat := 174
abbrev n_l_pick_kind : Nat := 175
abbrev n_l_kinds_told : Nat := 176
abbrev n_l_taking_told : Nat := 177
abbrev n_l_conditions_told : Nat := 178
abbrev n_l_near_told : Nat := 179
abbrev n_l_forms_told : Nat := 180
abbrev n_l_joining_told : Nat := 181
abbrev n_law_k17 : Nat := 182
abbrev n_l_sets_k18 : Nat := 183
abbrev n_l_kind : Nat := 184
abbrev n_l_added_k18 : Nat := 185
abbrev n_l_taken_k18 : Nat := 186
abbrev n_l_full_k18 : Nat := 187
abbrev n_l_least_k18 : Nat := 188
abbrev n_law_k18 : Nat := 189
abbrev n_l_worst : Nat := 190
abbrev n_law_k19 : Nat := 191
abbrev n_l_told_k20 : Nat := 192
abbrev n_l_near : Nat := 193
abbrev n_l_nudges : Nat := 194
abbrev n_law_k20 : Nat := 195
abbrev n_law_k21 : Nat := 196
abbrev n_l_told_k22 : Nat := 197
abbrev n_l_kinds : Nat := 198
abbrev n_law_k22 : Nat := 199
abbrev n_l_told_k23 : Nat := 200
abbrev n_l_good : Nat := 201
abbrev n_law_k23 : Nat := 202
abbrev n_law_k24 : Nat := 203
abbrev n_l_worst_told : Nat := 204
abbrev n_l_margins_told : Nat := 205
abbrev n_l_rows_told : Nat := 206
abbrev n_law_k25 : Nat := 207
def b_BadLots___init__ (x : Ix) : Ss := (.cons .bad .nil)
def d_BadLots___init__ (x : Ix) : Fd := ⟨2, 2, b_BadLots___init__ x⟩
-- BadLots___init__ 0:self 1:index
def b_is_integer (x : Ix) : Ss := (.cons (.ret (.and (.bi (.isT .int x.obs) (.cons false (.var 0) .nil)) (.not (.bi (.isT .bool x.obs) (.cons false (.var 0) .nil)))))
 .nil)
def d_is_integer (x : Ix) : Fd := ⟨1, 1, b_is_integer x⟩
-- is_integer 0:value
def b_is_from (x : Ix) : Ss := (.cons (.ret (.and (.call (x.f n_is_integer) (.cons false (.var 0) .nil)) (.chain .le .le (.var 1) (.var 0) (.var 2))))
 .nil)
def d_is_from (x : Ix) : Fd := ⟨3, 3, b_is_from x⟩
-- is_from 0:value 1:low 2:high
def b_is_rising (x : Ix) : Ss := (.cons (.ite (.or (.not (.bi (.isT .tuple x.obs) (.cons false (.var 0) .nil))) (.not (.bi .all (.cons false (.comp (.call (x.f n_is_from) (.cons false (.var 2) (.cons false (.k (.int (0))) (.cons false (.op .sub (.var 1) (.k (.int (1)))) .nil)))) (.one 2) (.e (.var 0)) .no [2]) .nil)))) (.cons (.ret (.k (.bl false)))
 .nil) .nil)
 (.cons (.ret (.bi .all (.cons false (.comp (.op .lt (.sub (.var 0) (.var 3)) (.sub (.var 0) (.op .add (.var 3) (.k (.int (1)))))) (.one 3) (.range1 (.op .sub (.bi .len (.cons false (.var 0) .nil)) (.k (.int (1))))) .no [3]) .nil)))
 .nil))
def d_is_rising (x : Ix) : Fd := ⟨2, 4, b_is_rising x⟩
-- is_rising 0:value 1:things 2:one 3:at
def b_Kind___init__ (x : Ix) : Ss := (.cons (.ite (.not (.call (x.f n_is_from) (.cons false (.var 1) (.cons false (.k (.int (1))) (.cons false (.glob (x.g g_MOST_THINGS)) .nil))))) (.cons (.raise (x.c c_BadThings) .nil)
 .nil) .nil)
 (.cons (.ite (.not (.bi (.isT .tuple x.obs) (.cons false (.var 2) .nil))) (.cons (.raise (x.c c_BadLots) (.cons false (.k .non) .nil))
 .nil) .nil)
 (.cons (.for_ (.two 3 4) (.enum (.var 2)) (.cons (.ite (.or (.not (.call (x.f n_is_rising) (.cons false (.var 4) (.cons false (.var 1) .nil)))) (.op .mem (.var 4) (.slice (.var 2) .no (.yes (.var 3))))) (.cons (.raise (x.c c_BadLots) (.cons false (.var 3) .nil))
 .nil) .nil)
 .nil))
 (.cons (.ite (.op .nmem (.tup .nil) (.var 2)) (.cons (.raise (x.c c_BadLots) (.cons false (.k .non) .nil))
 .nil) .nil)
 (.cons (.setFld (x.c c_Kind) 0 (.var 0) (.var 1))
 (.cons (.setFld (x.c c_Kind) 1 (.var 0) (.bi .tuple (.cons false (.bi .sorted (.cons false (.var 2) .nil)) .nil)))
 .nil))))))
def d_Kind___init__ (x : Ix) : Fd := ⟨3, 5, b_Kind___init__ x⟩
-- Kind___init__ 0:self 1:things 2:lots 3:index 4:lot
def b_Kind_things (x : Ix) : Ss := (.cons (.ret (.fld (x.c c_Kind) 0 (.var 0)))
 .nil)
def d_Kind_things (x : Ix) : Fd := ⟨1, 1, b_Kind_things x⟩
-- Kind_things 0:self
def b_Kind_lots (x : Ix) : Ss := (.cons (.ret (.fld (x.c c_Kind) 1 (.var 0)))
 .nil)
def d_Kind_lots (x : Ix) : Fd := ⟨1, 1, b_Kind_lots x⟩
-- Kind_lots 0:self
def b_Kind___eq__ (x : Ix) : Ss := (.cons (.ret (.and (.bi (.isT (.cls (x.c c_Kind)) x.obs) (.cons false (.var 1) .nil)) (.and (.op .eq (.fld (x.c c_Kind) 0 (.var 0)) (.fld (x.c c_Kind) 0 (.var 1))) (.op .eq (.fld (x.c c_Kind) 1 (.var 0)) (.fld (x.c c_Kind) 1 (.var 1))))))
 .nil)
def d_Kind___eq__ (x : Ix) : Fd := ⟨2, 2, b_Kind___eq__ x⟩
-- Kind___eq__ 0:self 1:other
def b_with_thing (x : Ix) : Ss := (.cons (.ret (.bi .tuple (.cons false (.bi .sorted (.cons false (.lst (.cons true (.var 0) (.cons false (.var 1) .nil))) .nil)) .nil)))
 .nil)
def d_with_thing (x : Ix) : Fd := ⟨2, 2, b_with_thing x⟩
-- with_thing 0:lot 1:thing
def b_added (x : Ix) : Ss := (.cons (.ret (.comp (.var 2) (.one 2) (.range1 (.fld (x.c c_Kind) 0 (.var 0))) (.yes (.and (.op .nmem (.var 2) (.var 1)) (.op .mem (.call (x.f n_with_thing) (.cons false (.var 1) (.cons false (.var 2) .nil))) (.fld (x.c c_Kind) 1 (.var 0))))) [2]))
 .nil)
def d_added (x : Ix) : Fd := ⟨2, 3, b_added x⟩
-- added 0:kind 1:lot 2:thing
def b_is_lot (x : Ix) : Ss := (.cons (.ret (.and (.call (x.f n_is_rising) (.cons false (.var 1) (.cons false (.fld (x.c c_Kind) 0 (.var 0)) .nil))) (.op .mem (.var 1) (.fld (x.c c_Kind) 1 (.var 0)))))
 .nil)
def d_is_lot (x : Ix) : Fd := ⟨2, 2, b_is_lot x⟩
-- is_lot 0:kind 1:value
def b_adding (x : Ix) : Ss := (.cons (.ite (.not (.call (x.f n_is_lot) (.cons false (.var 0) (.cons false (.var 1) .nil)))) (.cons (.raise (x.c c_BadLot) .nil)
 .nil) .nil)
 (.cons (.ret (.call (x.f n_added) (.cons false (.var 0) (.cons false (.var 1) .nil))))
 .nil))
def d_adding (x : Ix) : Fd := ⟨2, 2, b_adding x⟩
-- adding 0:kind 1:lot
def b_full (x : Ix) : Ss := (.cons (.ret (.comp (.var 1) (.one 1) (.e (.fld (x.c c_Kind) 1 (.var 0))) (.yes (.op .eq (.bi .len (.cons false (.call (x.f n_added) (.cons false (.var 0) (.cons false (.var 1) .nil))) .nil)) (.k (.int (0))))) [1]))
 .nil)
def d_full (x : Ix) : Fd := ⟨1, 2, b_full x⟩
-- full 0:kind 1:lot
def b_built (x : Ix) : Ss := (.cons (.par 1 true 2 true (.dnew (.cons false (.tup .nil) (.cons false (.k (.bl true)) .nil))) (.lst (.cons false (.tup .nil) .nil)))
 (.cons (.while_ (.op .gt (.bi .len (.cons false (.var 2) .nil)) (.k (.int (0)))) (.cons (.set 3 false (.pop (.var 2)))
 (.cons (.for_ (.one 4) (.e (.call (x.f n_added) (.cons false (.var 0) (.cons false (.var 3) .nil)))) (.cons (.set 5 false (.call (x.f n_with_thing) (.cons false (.var 3) (.cons false (.var 4) .nil))))
 (.cons (.ite (.op .nmem (.var 5) (.var 1)) (.cons (.setItem (.var 1) (.var 5) (.k (.bl true)))
 (.cons (.ex (.app (.var 2) (.var 5)))
 .nil)) .nil)
 .nil)))
 .nil)))
 (.cons (.ret (.bi .sorted (.cons false (.dkeys (.var 1)) .nil)))
 .nil)))
def d_built (x : Ix) : Fd := ⟨1, 6, b_built x⟩
-- built 0:kind 1:found 2:waiting 3:lot 4:thing 5:later
def b_check_weights (x : Ix) : Ss := (.cons (.ite (.or (.not (.bi (.isT .tuple x.obs) (.cons false (.var 1) .nil))) (.op .ne (.bi .len (.cons false (.var 1) .nil)) (.fld (x.c c_Kind) 0 (.var 0)))) (.cons (.raise (x.c c_BadWeights) .nil)
 .nil) .nil)
 (.cons (.ite (.not (.bi .all (.cons false (.comp (.call (x.f n_is_from) (.cons false (.var 2) (.cons false (.op .sub (.k (.int (0))) (.glob (x.g g_MOST_WEIGHT))) (.cons false (.glob (x.g g_MOST_WEIGHT)) .nil)))) (.one 2) (.e (.var 1)) .no [2]) .nil))) (.cons (.raise (x.c c_BadWeights) .nil)
 .nil) .nil)
 .nil))
def d_check_weights (x : Ix) : Fd := ⟨2, 3, b_check_weights x⟩
-- check_weights 0:kind 1:weights 2:one
def b_next_thing (x : Ix) : Ss := (.cons (.set 3 false (.k .non))
 (.cons (.for_ (.one 4) (.e (.call (x.f n_added) (.cons false (.var 0) (.cons false (.var 1) .nil)))) (.cons (.set 3 false (.ite (.or (.isN (.var 3)) (.op .gt (.sub (.var 2) (.var 4)) (.sub (.var 2) (.var 3)))) (.var 4) (.var 3)))
 .nil))
 (.cons (.ret (.var 3))
 .nil)))
def d_next_thing (x : Ix) : Fd := ⟨3, 5, b_next_thing x⟩
-- next_thing 0:kind 1:lot 2:weights 3:best 4:thing
def b_taken_by (x : Ix) : Ss := (.cons (.par 2 false 3 false (.tup .nil) (.tup .nil))
 (.cons (.set 4 false (.call (x.f n_next_thing) (.cons false (.var 0) (.cons false (.var 2) (.cons false (.var 1) .nil)))))
 (.cons (.while_ (.notN (.var 4)) (.cons (.par 2 false 3 false (.call (x.f n_with_thing) (.cons false (.var 2) (.cons false (.var 4) .nil))) (.tup (.cons true (.var 3) (.cons false (.var 4) .nil))))
 (.cons (.set 4 false (.call (x.f n_next_thing) (.cons false (.var 0) (.cons false (.var 2) (.cons false (.var 1) .nil)))))
 .nil)))
 (.cons (.ret (.var 3))
 .nil))))
def d_taken_by (x : Ix) : Fd := ⟨2, 5, b_taken_by x⟩
-- taken_by 0:kind 1:weights 2:lot 3:found 4:thing
def b_taken (x : Ix) : Ss := (.cons (.ex (.call (x.f n_check_weights) (.cons false (.var 0) (.cons false (.var 1) .nil))))
 (.cons (.ret (.call (x.f n_taken_by) (.cons false (.var 0) (.cons false (.var 1) .nil))))
 .nil))
def d_taken (x : Ix) : Fd := ⟨2, 2, b_taken x⟩
-- taken 0:kind 1:weights
def b_best_of (x : Ix) : Ss := (.cons (.set 2 false (.bi .max (.cons false (.var 1) .nil)))
 (.cons (.ret (.tup (.cons false (.var 2) (.cons false (.comp (.var 3) (.two 3 4) (.zip (.var 0) (.var 1)) (.yes (.op .eq (.var 4) (.var 2))) [3, 4]) .nil))))
 .nil))
def d_best_of (x : Ix) : Fd := ⟨2, 5, b_best_of x⟩
-- best_of 0:some 1:values 2:most 3:one 4:value
def b_heaviest (x : Ix) : Ss := (.cons (.ex (.call (x.f n_check_weights) (.cons false (.var 0) (.cons false (.var 1) .nil))))
 (.cons (.set 2 false (.call (x.f n_full) (.cons false (.var 0) .nil)))
 (.cons (.ret (.call (x.f n_best_of) (.cons false (.var 2) (.cons false (.comp (.bi .sum (.cons false (.comp (.sub (.var 1) (.var 4)) (.one 4) (.e (.var 3)) .no [4]) .nil)) (.one 3) (.e (.var 2)) .no [3]) .nil))))
 .nil)))
def d_heaviest (x : Ix) : Fd := ⟨2, 5, b_heaviest x⟩
-- heaviest 0:kind 1:weights 2:some 3:lot 4:thing
def b_poorest (x : Ix) : Ss := (.cons (.ret (.bi .min (.cons false (.lst (.cons false (.glob (x.g g_BEYOND)) (.cons true (.comp (.sub (.var 1) (.var 2)) (.one 2) (.e (.var 0)) .no [2]) .nil))) .nil)))
 .nil)
def d_poorest (x : Ix) : Fd := ⟨2, 3, b_poorest x⟩
-- poorest 0:lot 1:weights 2:thing
def b_richest (x : Ix) : Ss := (.cons (.ex (.call (x.f n_check_weights) (.cons false (.var 0) (.cons false (.var 1) .nil))))
 (.cons (.set 2 false (.call (x.f n_full) (.cons false (.var 0) .nil)))
 (.cons (.ret (.call (x.f n_best_of) (.cons false (.var 2) (.cons false (.comp (.call (x.f n_poorest) (.cons false (.var 3) (.cons false (.var 1) .nil))) (.one 3) (.e (.var 2)) .no [3]) .nil))))
 .nil)))
def d_richest (x : Ix) : Fd := ⟨2, 4, b_richest x⟩
-- richest 0:kind 1:weights 2:some 3:lot
def b_orders (x : Ix) : Ss := (.cons (.set 1 false (.lst (.cons false (.tup .nil) .nil)))
 (.cons (.for_ (.one 2) (.range1 (.var 0)) (.cons (.set 1 false (.comp2 (.tup (.cons true (.var 3) (.cons false (.var 4) .nil))) (.one 3) (.e (.var 1)) (.one 4) (.range1 (.var 0)) (.yes (.op .nmem (.var 4) (.var 3))) [3, 4] [4]))
 .nil))
 (.cons (.ret (.var 1))
 .nil)))
def d_orders (x : Ix) : Fd := ⟨1, 5, b_orders x⟩
-- orders 0:things 1:found 2:lap 3:row 4:one
def b_falling (x : Ix) : Ss := (.cons (.ret (.bi .tuple (.cons false (.comp (.op .sub (.bi .len (.cons false (.var 0) .nil)) (.bi .index (.cons false (.var 0) (.cons false (.var 1) .nil)))) (.one 1) (.range1 (.bi .len (.cons false (.var 0) .nil))) .no [1]) .nil)))
 .nil)
def d_falling (x : Ix) : Fd := ⟨1, 2, b_falling x⟩
-- falling 0:order 1:thing
def b_short_of (x : Ix) : Ss := (.cons (.for_ (.one 3) (.range2 (.k (.int (1))) (.bi .len (.cons false (.var 2) .nil))) (.cons (.set 4 false (.slice (.var 2) .no (.yes (.var 3))))
 (.cons (.ite (.op .lt (.bi .len (.cons false (.comp (.var 5) (.one 5) (.e (.var 0)) (.yes (.op .mem (.var 5) (.var 4))) [5]) .nil)) (.bi .len (.cons false (.comp (.var 5) (.one 5) (.e (.var 1)) (.yes (.op .mem (.var 5) (.var 4))) [5]) .nil))) (.cons (.ret (.var 3))
 .nil) .nil)
 .nil)))
 (.cons (.ret (.k .non))
 .nil))
def d_short_of (x : Ix) : Fd := ⟨3, 6, b_short_of x⟩
-- short_of 0:lot 1:other 2:order 3:many 4:some 5:one
def b_weights_against (x : Ix) : Ss := (.cons (.par 3 false 4 false (.call (x.f n_short_of) (.cons false (.var 0) (.cons false (.var 1) (.cons false (.var 2) .nil)))) (.call (x.f n_falling) (.cons false (.var 2) .nil)))
 (.cons (.ite (.notN (.var 3)) (.cons (.ret (.bi .tuple (.cons false (.comp (.ite (.op .mem (.var 6) (.slice (.var 2) .no (.yes (.var 3)))) (.op .add (.sub (.var 4) (.var 6)) (.glob (x.g g_STEP))) (.sub (.var 4) (.var 6))) (.one 6) (.range1 (.bi .len (.cons false (.var 2) .nil))) .no [6]) .nil)))
 .nil) .nil)
 (.cons (.ite (.op .eq (.bi .len (.cons false (.var 0) .nil)) (.bi .len (.cons false (.var 1) .nil))) (.cons (.ret (.k .non))
 .nil) .nil)
 (.cons (.set 5 false (.ite (.op .lt (.bi .len (.cons false (.var 0) .nil)) (.bi .len (.cons false (.var 1) .nil))) (.glob (x.g g_STEP)) (.op .sub (.k (.int (0))) (.glob (x.g g_STEP)))))
 (.cons (.ret (.bi .tuple (.cons false (.comp (.op .add (.var 7) (.var 5)) (.one 7) (.e (.var 4)) .no [7]) .nil)))
 .nil)))))
def d_weights_against (x : Ix) : Fd := ⟨3, 8, b_weights_against x⟩
-- weights_against 0:lot 1:other 2:order 3:many 4:base 5:more 6:thing 7:one
def b_fooling (x : Ix) : Ss := (.cons (.set 1 false (.call (x.f n_full) (.cons false (.var 0) .nil)))
 (.cons (.for_ (.one 2) (.e (.call (x.f n_orders) (.cons false (.fld (x.c c_Kind) 0 (.var 0)) .nil))) (.cons (.set 3 false (.bi .tuple (.cons false (.bi .sorted (.cons false (.call (x.f n_taken_by) (.cons false (.var 0) (.cons false (.call (x.f n_falling) (.cons false (.var 2) .nil)) .nil))) .nil)) .nil)))
 (.cons (.for_ (.one 4) (.e (.var 1)) (.cons (.set 5 false (.call (x.f n_weights_against) (.cons false (.var 3) (.cons false (.var 4) (.cons false (.var 2) .nil)))))
 (.cons (.ite (.notN (.var 5)) (.cons (.ret (.tup (.cons false (.var 5) (.cons false (.var 3) (.cons false (.var 4) .nil)))))
 .nil) .nil)
 .nil)))
 .nil)))
 (.cons (.ret (.k .non))
 .nil)))
def d_fooling (x : Ix) : Fd := ⟨1, 6, b_fooling x⟩
-- fooling 0:kind 1:some 2:order 3:lot 4:other 5:weights
def b_always (x : Ix) : Ss := (.cons (.ret (.isN (.call (x.f n_fooling) (.cons false (.var 0) .nil))))
 .nil)
def d_always (x : Ix) : Fd := ⟨1, 1, b_always x⟩
-- always 0:kind
def b_fooling_least (x : Ix) : Ss := (.cons (.set 1 false (.call (x.f n_full) (.cons false (.var 0) .nil)))
 (.cons (.for_ (.one 2) (.e (.call (x.f n_orders) (.cons false (.fld (x.c c_Kind) 0 (.var 0)) .nil))) (.cons (.set 3 false (.call (x.f n_falling) (.cons false (.var 2) .nil)))
 (.cons (.set 4 false (.bi .tuple (.cons false (.bi .sorted (.cons false (.call (x.f n_taken_by) (.cons false (.var 0) (.cons false (.var 3) .nil))) .nil)) .nil)))
 (.cons (.for_ (.one 5) (.e (.var 1)) (.cons (.ite (.op .gt (.call (x.f n_poorest) (.cons false (.var 5) (.cons false (.var 3) .nil))) (.call (x.f n_poorest) (.cons false (.var 4) (.cons false (.var 3) .nil)))) (.cons (.ret (.tup (.cons false (.var 3) (.cons false (.var 4) (.cons false (.var 5) .nil)))))
 .nil) .nil)
 .nil))
 .nil))))
 (.cons (.ret (.k .non))
 .nil)))
def d_fooling_least (x : Ix) : Fd := ⟨1, 6, b_fooling_least x⟩
-- fooling_least 0:kind 1:some 2:order 3:weights 4:lot 5:other
def b_always_least (x : Ix) : Ss := (.cons (.ret (.isN (.call (x.f n_fooling_least) (.cons false (.var 0) .nil))))
 .nil)
def d_always_least (x : Ix) : Fd := ⟨1, 1, b_always_least x⟩
-- always_least 0:kind
def b_without_thing (x : Ix) : Ss := (.cons (.ret (.bi .tuple (.cons false (.comp (.var 2) (.one 2) (.e (.var 0)) (.yes (.op .ne (.var 2) (.var 1))) [2]) .nil)))
 .nil)
def d_without_thing (x : Ix) : Fd := ⟨2, 3, b_without_thing x⟩
-- without_thing 0:lot 1:thing 2:one
def b_is_part (x : Ix) : Ss := (.cons (.ret (.bi .all (.cons false (.comp (.op .mem (.var 2) (.var 1)) (.one 2) (.e (.var 0)) .no [2]) .nil)))
 .nil)
def d_is_part (x : Ix) : Fd := ⟨2, 3, b_is_part x⟩
-- is_part 0:lot 1:other 2:one
def b_steps (x : Ix) : Ss := (.cons (.for_ (.one 1) (.e (.fld (x.c c_Kind) 1 (.var 0))) (.cons (.ite (.and (.op .gt (.bi .len (.cons false (.var 1) .nil)) (.k (.int (0)))) (.not (.bi .any (.cons false (.comp (.op .mem (.call (x.f n_without_thing) (.cons false (.var 1) (.cons false (.var 2) .nil))) (.fld (x.c c_Kind) 1 (.var 0))) (.one 2) (.e (.var 1)) .no [2]) .nil)))) (.cons (.ret (.var 1))
 .nil) .nil)
 .nil))
 (.cons (.ret (.k .non))
 .nil))
def d_steps (x : Ix) : Fd := ⟨1, 3, b_steps x⟩
-- steps 0:kind 1:lot 2:thing
def b_extends (x : Ix) : Ss := (.cons (.set 1 false (.call (x.f n_full) (.cons false (.var 0) .nil)))
 (.cons (.for_ (.one 2) (.e (.fld (x.c c_Kind) 1 (.var 0))) (.cons (.set 3 false (.call (x.f n_added) (.cons false (.var 0) (.cons false (.var 2) .nil))))
 (.cons (.for_ (.one 4) (.e (.var 1)) (.cons (.ite (.and (.op .ne (.var 2) (.var 4)) (.and (.call (x.f n_is_part) (.cons false (.var 2) (.cons false (.var 4) .nil))) (.not (.bi .any (.cons false (.comp (.op .mem (.var 5) (.var 4)) (.one 5) (.e (.var 3)) .no [5]) .nil))))) (.cons (.ret (.tup (.cons false (.var 2) (.cons false (.var 4) .nil))))
 .nil) .nil)
 .nil))
 .nil)))
 (.cons (.ret (.k .non))
 .nil)))
def d_extends (x : Ix) : Fd := ⟨1, 6, b_extends x⟩
-- extends 0:kind 1:some 2:lot 3:things 4:other 5:thing
def b_lies_within (x : Ix) : Ss := (.cons (.ret (.bi .any (.cons false (.comp (.call (x.f n_is_part) (.cons false (.var 1) (.cons false (.var 2) .nil))) (.one 2) (.e (.fld (x.c c_Kind) 1 (.var 0))) .no [2]) .nil)))
 .nil)
def d_lies_within (x : Ix) : Fd := ⟨2, 3, b_lies_within x⟩
-- lies_within 0:kind 1:some 2:lot
def b_parts_of (x : Ix) : Ss := (.cons (.set 1 false (.lst (.cons false (.tup .nil) .nil)))
 (.cons (.for_ (.one 2) (.e (.var 0)) (.cons (.set 1 false (.op .add (.var 1) (.comp (.tup (.cons true (.var 3) (.cons false (.var 2) .nil))) (.one 3) (.e (.var 1)) .no [3])))
 .nil))
 (.cons (.ret (.bi .sorted (.cons false (.var 1) .nil)))
 .nil)))
def d_parts_of (x : Ix) : Fd := ⟨1, 4, b_parts_of x⟩
-- parts_of 0:things 1:found 2:thing 3:some
def b_agrees (x : Ix) : Ss := (.cons (.for_ (.one 1) (.e (.fld (x.c c_Kind) 1 (.var 0))) (.cons (.set 2 false (.call (x.f n_added) (.cons false (.var 0) (.cons false (.var 1) .nil))))
 (.cons (.set 3 false (.comp (.var 8) (.one 8) (.range1 (.fld (x.c c_Kind) 0 (.var 0))) (.yes (.and (.op .nmem (.var 8) (.var 1)) (.op .nmem (.var 8) (.var 2)))) [8]))
 (.cons (.for_ (.one 4) (.e (.var 2)) (.cons (.for_ (.one 5) (.e (.var 2)) (.cons (.for_ (.one 6) (.e (.call (x.f n_parts_of) (.cons false (.var 3) .nil))) (.cons (.set 7 false (.bi .tuple (.cons false (.bi .sorted (.cons false (.op .add (.var 1) (.var 6)) .nil)) .nil)))
 (.cons (.ite (.and (.call (x.f n_lies_within) (.cons false (.var 0) (.cons false (.call (x.f n_with_thing) (.cons false (.var 7) (.cons false (.var 4) .nil))) .nil))) (.not (.call (x.f n_lies_within) (.cons false (.var 0) (.cons false (.call (x.f n_with_thing) (.cons false (.var 7) (.cons false (.var 5) .nil))) .nil))))) (.cons (.ret (.tup (.cons false (.var 1) (.cons false (.var 4) (.cons false (.var 5) (.cons false (.var 6) .nil))))))
 .nil) .nil)
 .nil)))
 .nil))
 .nil))
 .nil))))
 (.cons (.ret (.k .non))
 .nil))
def d_agrees (x : Ix) : Fd := ⟨1, 9, b_agrees x⟩
-- agrees 0:kind 1:lot 2:things 3:rest 4:one 5:other 6:some 7:both 8:thing
def b_spreads (x : Ix) : Ss := (.cons (.set 1 false (.comp (.var 2) (.one 2) (.e (.call (x.f n_parts_of) (.cons false (.lrange (.fld (x.c c_Kind) 0 (.var 0))) .nil))) (.yes (.call (x.f n_lies_within) (.cons false (.var 0) (.cons false (.var 2) .nil)))) [2]))
 (.cons (.for_ (.one 2) (.e (.var 1)) (.cons (.for_ (.one 3) (.e (.var 1)) (.cons (.ite (.and (.op .lt (.bi .len (.cons false (.var 2) .nil)) (.bi .len (.cons false (.var 3) .nil))) (.not (.call (x.f n_can_grow) (.cons false (.var 0) (.cons false (.var 2) (.cons false (.var 3) .nil)))))) (.cons (.ret (.tup (.cons false (.var 2) (.cons false (.var 3) .nil))))
 .nil) .nil)
 .nil))
 .nil))
 (.cons (.ret (.k .non))
 .nil)))
def d_spreads (x : Ix) : Fd := ⟨1, 4, b_spreads x⟩
-- spreads 0:kind 1:parts 2:some 3:others
def b_can_grow (x : Ix) : Ss := (.cons (.ret (.bi .any (.cons false (.comp (.and (.op .nmem (.var 3) (.var 1)) (.call (x.f n_lies_within) (.cons false (.var 0) (.cons false (.call (x.f n_with_thing) (.cons false (.var 1) (.cons false (.var 3) .nil))) .nil)))) (.one 3) (.e (.var 2)) .no [3]) .nil)))
 .nil)
def d_can_grow (x : Ix) : Fd := ⟨3, 4, b_can_grow x⟩
-- can_grow 0:kind 1:some 2:others 3:thing
def b_BadLines___init__ (x : Ix) : Ss := (.cons .bad .nil)
def d_BadLines___init__ (x : Ix) : Fd := ⟨2, 2, b_BadLines___init__ x⟩
-- BadLines___init__ 0:self 1:index
def b_is_pair (x : Ix) : Ss := (.cons (.ite (.or (.not (.bi (.isT .tuple x.obs) (.cons false (.var 0) .nil))) (.or (.op .ne (.bi .len (.cons false (.var 0) .nil)) (.k (.int (2)))) (.not (.call (x.f n_is_from) (.cons false (.sub (.var 0) (.k (.int (0)))) (.cons false (.k (.int (0))) (.cons false (.op .sub (.var 1) (.k (.int (1)))) .nil))))))) (.cons (.ret (.k (.bl false)))
 .nil) .nil)
 (.cons (.ret (.call (x.f n_is_from) (.cons false (.sub (.var 0) (.k (.int (1)))) (.cons false (.op .add (.sub (.var 0) (.k (.int (0)))) (.k (.int (1)))) (.cons false (.op .sub (.var 1) (.k (.int (1)))) .nil)))))
 .nil))
def d_is_pair (x : Ix) : Fd := ⟨2, 2, b_is_pair x⟩
-- is_pair 0:value 1:many
def b_check_lines (x : Ix) : Ss := (.cons (.ite (.not (.call (x.f n_is_from) (.cons false (.var 0) (.cons false (.k (.int (2))) (.cons false (.glob (x.g g_MOST_PLACES)) .nil))))) (.cons (.raise (x.c c_BadPlaces) .nil)
 .nil) .nil)
 (.cons (.ite (.or (.not (.bi (.isT .tuple x.obs) (.cons false (.var 1) .nil))) (.not (.chain .le .le (.k (.int (1))) (.bi .len (.cons false (.var 1) .nil)) (.glob (x.g g_MOST_THINGS))))) (.cons (.raise (x.c c_BadLines) (.cons false (.k .non) .nil))
 .nil) .nil)
 (.cons (.for_ (.two 2 3) (.enum (.var 1)) (.cons (.ite (.or (.not (.call (x.f n_is_pair) (.cons false (.var 3) (.cons false (.var 0) .nil)))) (.op .mem (.var 3) (.slice (.var 1) .no (.yes (.var 2))))) (.cons (.raise (x.c c_BadLines) (.cons false (.var 2) .nil))
 .nil) .nil)
 .nil))
 .nil)))
def d_check_lines (x : Ix) : Fd := ⟨2, 4, b_check_lines x⟩
-- check_lines 0:places 1:lines 2:index 3:line
def b_ends_of (x : Ix) : Ss := (.cons (.set 3 false (.lrange (.var 0)))
 (.cons (.for_ (.one 4) (.e (.var 2)) (.cons (.unp [5, 6] (.comp (.sub (.var 3) (.var 7)) (.one 7) (.e (.sub (.var 1) (.var 4))) .no [7]))
 (.cons (.set 3 false (.comp (.ite (.op .eq (.var 8) (.bi .max (.cons false (.var 5) (.cons false (.var 6) .nil)))) (.bi .min (.cons false (.var 5) (.cons false (.var 6) .nil))) (.var 8)) (.one 8) (.e (.var 3)) .no [8]))
 .nil)))
 (.cons (.ret (.var 3))
 .nil)))
def d_ends_of (x : Ix) : Fd := ⟨3, 9, b_ends_of x⟩
-- ends_of 0:places 1:lines 2:some 3:found 4:line 5:one 6:other 7:place 8:end
def b_forests (x : Ix) : Ss := (.cons (.ex (.call (x.f n_check_lines) (.cons false (.var 0) (.cons false (.var 1) .nil))))
 (.cons (.set 2 true (.lst .nil))
 (.cons (.for_ (.one 3) (.e (.call (x.f n_parts_of) (.cons false (.lrange (.bi .len (.cons false (.var 1) .nil))) .nil))) (.cons (.ite (.op .eq (.op .add (.bi .lenSet (.cons false (.call (x.f n_ends_of) (.cons false (.var 0) (.cons false (.var 1) (.cons false (.var 3) .nil)))) .nil)) (.bi .len (.cons false (.var 3) .nil))) (.var 0)) (.cons (.ex (.app (.var 2) (.var 3)))
 .nil) .nil)
 .nil))
 (.cons (.ret (.mk (x.c c_Kind) (.cons false (.bi .len (.cons false (.var 1) .nil)) (.cons false (.bi .tuple (.cons false (.var 2) .nil)) .nil))))
 .nil))))
def d_forests (x : Ix) : Fd := ⟨2, 4, b_forests x⟩
-- forests 0:places 1:lines 2:found 3:some
def b_grown (x : Ix) : Ss := (.cons (.ex (.call (x.f n_check_lines) (.cons false (.var 0) (.cons false (.var 1) .nil))))
 (.cons (.ite (.not (.call (x.f n_is_from) (.cons false (.var 2) (.cons false (.k (.int (0))) (.cons false (.op .sub (.var 0) (.k (.int (1)))) .nil))))) (.cons (.raise (x.c c_BadRoot) .nil)
 .nil) .nil)
 (.cons (.set 3 true (.lst .nil))
 (.cons (.for_ (.one 4) (.e (.fld (x.c c_Kind) 1 (.call (x.f n_forests) (.cons false (.var 0) (.cons false (.var 1) .nil))))) (.cons (.set 5 false (.call (x.f n_ends_of) (.cons false (.var 0) (.cons false (.var 1) (.cons false (.var 4) .nil)))))
 (.cons (.ite (.bi .all (.cons false (.comp (.op .eq (.sub (.var 5) (.sub (.sub (.var 1) (.var 6)) (.k (.int (0))))) (.sub (.var 5) (.var 2))) (.one 6) (.e (.var 4)) .no [6]) .nil)) (.cons (.ex (.app (.var 3) (.var 4)))
 .nil) .nil)
 .nil)))
 (.cons (.ret (.mk (x.c c_Kind) (.cons false (.bi .len (.cons false (.var 1) .nil)) (.cons false (.bi .tuple (.cons false (.var 3) .nil)) .nil))))
 .nil)))))
def d_grown (x : Ix) : Fd := ⟨3, 7, b_grown x⟩
-- grown 0:places 1:lines 2:root 3:found 4:some 5:ends 6:line
def b_check_most (x : Ix) : Ss := (.cons (.ite (.not (.call (x.f n_is_from) (.cons false (.var 0) (.cons false (.k (.int (0))) (.cons false (.glob (x.g g_MOST_CHANGES)) .nil))))) (.cons (.raise (x.c c_BadMost) .nil)
 .nil) .nil)
 .nil)
def d_check_most (x : Ix) : Fd := ⟨1, 1, b_check_most x⟩
-- check_most 0:most
def b_subsets (x : Ix) : Ss := (.cons (.ite (.op .eq (.var 1) (.k (.int (0)))) (.cons (.ret (.lst (.cons false (.tup .nil) .nil)))
 .nil) .nil)
 (.cons (.set 2 true (.lst .nil))
 (.cons (.for_ (.two 3 4) (.enum (.var 0)) (.cons (.ex (.ext (.var 2) (.comp (.tup (.cons false (.var 4) (.cons true (.var 5) .nil))) (.one 5) (.e (.call (x.f n_subsets) (.cons false (.slice (.var 0) (.yes (.op .add (.var 3) (.k (.int (1))))) .no) (.cons false (.op .sub (.var 1) (.k (.int (1)))) .nil)))) .no [5])))
 .nil))
 (.cons (.ret (.var 2))
 .nil))))
def d_subsets (x : Ix) : Fd := ⟨2, 6, b_subsets x⟩
-- subsets 0:things 1:size 2:found 3:at 4:thing 5:rest
def b_strikes (x : Ix) : Ss := (.cons (.ex (.call (x.f n_check_most) (.cons false (.var 1) .nil)))
 (.cons (.set 2 false (.comp (.var 5) (.one 5) (.e (.fld (x.c c_Kind) 1 (.var 0))) (.yes (.op .ne (.var 5) (.tup .nil))) [5]))
 (.cons (.for_ (.one 3) (.range1 (.op .add (.var 1) (.k (.int (1))))) (.cons (.set 4 false (.comp (.var 6) (.one 6) (.e (.call (x.f n_subsets) (.cons false (.var 2) (.cons false (.var 3) .nil)))) (.yes (.call (x.f n_always) (.cons false (.mk (x.c c_Kind) (.cons false (.fld (x.c c_Kind) 0 (.var 0)) (.cons false (.bi .tuple (.cons false (.comp (.var 5) (.one 5) (.e (.fld (x.c c_Kind) 1 (.var 0))) (.yes (.op .nmem (.var 5) (.var 6))) [5]) .nil)) .nil))) .nil))) [6]))
 (.cons (.ite (.op .gt (.bi .len (.cons false (.var 4) .nil)) (.k (.int (0)))) (.cons (.ret (.var 4))
 .nil) .nil)
 .nil)))
 (.cons (.ret (.lst .nil))
 .nil))))
def d_strikes (x : Ix) : Fd := ⟨2, 7, b_strikes x⟩
-- strikes 0:kind 1:most 2:lots 3:size 4:found 5:lot 6:some
def b_adds (x : Ix) : Ss := (.cons (.ex (.call (x.f n_check_most) (.cons false (.var 1) .nil)))
 (.cons (.set 2 false (.comp (.var 5) (.one 5) (.e (.call (x.f n_parts_of) (.cons false (.lrange (.fld (x.c c_Kind) 0 (.var 0))) .nil))) (.yes (.op .nmem (.var 5) (.fld (x.c c_Kind) 1 (.var 0)))) [5]))
 (.cons (.for_ (.one 3) (.range1 (.op .add (.var 1) (.k (.int (1))))) (.cons (.set 4 false (.comp (.var 5) (.one 5) (.e (.call (x.f n_subsets) (.cons false (.var 2) (.cons false (.var 3) .nil)))) (.yes (.call (x.f n_always) (.cons false (.mk (x.c c_Kind) (.cons false (.fld (x.c c_Kind) 0 (.var 0)) (.cons false (.op .add (.fld (x.c c_Kind) 1 (.var 0)) (.var 5)) .nil))) .nil))) [5]))
 (.cons (.ite (.op .gt (.bi .len (.cons false (.var 4) .nil)) (.k (.int (0)))) (.cons (.ret (.var 4))
 .nil) .nil)
 .nil)))
 (.cons (.ret (.lst .nil))
 .nil))))
def d_adds (x : Ix) : Fd := ⟨2, 6, b_adds x⟩
-- adds 0:kind 1:most 2:lots 3:size 4:found 5:some
def b_BadPairs___init__ (x : Ix) : Ss := (.cons .bad .nil)
def d_BadPairs___init__ (x : Ix) : Fd := ⟨2, 2, b_BadPairs___init__ x⟩
-- BadPairs___init__ 0:self 1:index
def b_paired (x : Ix) : Ss := (.cons (.ex (.call (x.f n_check_lines) (.cons false (.var 0) (.cons false (.var 1) .nil))))
 (.cons (.set 2 true (.lst .nil))
 (.cons (.for_ (.one 3) (.e (.call (x.f n_parts_of) (.cons false (.lrange (.bi .len (.cons false (.var 1) .nil))) .nil))) (.cons (.set 4 false (.comp2 (.var 6) (.one 5) (.e (.var 3)) (.one 6) (.e (.sub (.var 1) (.var 5))) .no [5, 6] [6]))
 (.cons (.ite (.op .eq (.bi .lenSet (.cons false (.var 4) .nil)) (.bi .len (.cons false (.var 4) .nil))) (.cons (.ex (.app (.var 2) (.var 3)))
 .nil) .nil)
 .nil)))
 (.cons (.ret (.mk (x.c c_Kind) (.cons false (.bi .len (.cons false (.var 1) .nil)) (.cons false (.bi .tuple (.cons false (.var 2) .nil)) .nil))))
 .nil))))
def d_paired (x : Ix) : Fd := ⟨2, 7, b_paired x⟩
-- paired 0:places 1:lines 2:found 3:some 4:told 5:line 6:place
def b_worked (x : Ix) : Ss := (.cons (.ite (.not (.call (x.f n_is_from) (.cons false (.var 0) (.cons false (.k (.int (1))) (.cons false (.glob (x.g g_MOST_THINGS)) .nil))))) (.cons (.raise (x.c c_BadThings) .nil)
 .nil) .nil)
 (.cons (.ite (.not (.bi (.isT .tuple x.obs) (.cons false (.var 1) .nil))) (.cons (.raise (x.c c_BadPairs) (.cons false (.k .non) .nil))
 .nil) .nil)
 (.cons (.for_ (.two 2 3) (.enum (.var 1)) (.cons (.ite (.or (.not (.bi (.isT .tuple x.obs) (.cons false (.var 3) .nil))) (.or (.op .ne (.bi .len (.cons false (.var 3) .nil)) (.k (.int (2)))) (.not (.bi .all (.cons false (.comp (.call (x.f n_is_from) (.cons false (.var 6) (.cons false (.k (.int (0))) (.cons false (.op .sub (.var 0) (.k (.int (1)))) .nil)))) (.one 6) (.e (.var 3)) .no [6]) .nil))))) (.cons (.raise (x.c c_BadPairs) (.cons false (.var 2) .nil))
 .nil) .nil)
 .nil))
 (.cons (.set 4 true (.lst .nil))
 (.cons (.for_ (.one 5) (.e (.call (x.f n_parts_of) (.cons false (.lrange (.var 0)) .nil))) (.cons (.ite (.bi .all (.cons false (.comp (.or (.op .mem (.var 6) (.var 5)) (.op .nmem (.var 7) (.var 5))) (.two 6 7) (.e (.var 1)) .no [6, 7]) .nil)) (.cons (.ex (.app (.var 4) (.var 5)))
 .nil) .nil)
 .nil))
 (.cons (.ret (.mk (x.c c_Kind) (.cons false (.var 0) (.cons false (.bi .tuple (.cons false (.var 4) .nil)) .nil))))
 .nil))))))
def d_worked (x : Ix) : Fd := ⟨2, 8, b_worked x⟩
-- worked 0:things 1:before 2:index 3:pair 4:found 5:some 6:one 7:other
def b_joined (x : Ix) : Ss := (.cons (.ite (.op .gt (.op .add (.fld (x.c c_Kind) 0 (.var 0)) (.fld (x.c c_Kind) 0 (.var 1))) (.glob (x.g g_MOST_THINGS))) (.cons (.raise (x.c c_TooMany) .nil)
 .nil) .nil)
 (.cons (.set 2 false (.comp2 (.op .add (.var 3) (.bi .tuple (.cons false (.comp (.op .add (.var 5) (.fld (x.c c_Kind) 0 (.var 0))) (.one 5) (.e (.var 4)) .no [5]) .nil))) (.one 3) (.e (.fld (x.c c_Kind) 1 (.var 0))) (.one 4) (.e (.fld (x.c c_Kind) 1 (.var 1))) .no [3, 4] [4]))
 (.cons (.ret (.mk (x.c c_Kind) (.cons false (.op .add (.fld (x.c c_Kind) 0 (.var 0)) (.fld (x.c c_Kind) 0 (.var 1))) (.cons false (.bi .tuple (.cons false (.var 2) .nil)) .nil))))
 .nil)))
def d_joined (x : Ix) : Fd := ⟨2, 6, b_joined x⟩
-- joined 0:one 1:other 2:found 3:lot 4:rest 5:thing
def b_closed_up (x : Ix) : Ss := (.cons (.ret (.bi .tuple (.cons false (.comp (.ite (.op .gt (.var 2) (.var 1)) (.op .sub (.var 2) (.k (.int (1)))) (.var 2)) (.one 2) (.e (.call (x.f n_without_thing) (.cons false (.var 0) (.cons false (.var 1) .nil)))) .no [2]) .nil)))
 .nil)
def d_closed_up (x : Ix) : Fd := ⟨2, 3, b_closed_up x⟩
-- closed_up 0:lot 1:thing 2:one
def b_check_thing (x : Ix) : Ss := (.cons (.ite (.or (.not (.call (x.f n_is_from) (.cons false (.var 1) (.cons false (.k (.int (0))) (.cons false (.op .sub (.fld (x.c c_Kind) 0 (.var 0)) (.k (.int (1)))) .nil))))) (.op .eq (.fld (x.c c_Kind) 0 (.var 0)) (.k (.int (1))))) (.cons (.raise (x.c c_BadThing) .nil)
 .nil) .nil)
 .nil)
def d_check_thing (x : Ix) : Fd := ⟨2, 2, b_check_thing x⟩
-- check_thing 0:kind 1:thing
def b_without (x : Ix) : Ss := (.cons (.ex (.call (x.f n_check_thing) (.cons false (.var 0) (.cons false (.var 1) .nil))))
 (.cons (.ret (.mk (x.c c_Kind) (.cons false (.op .sub (.fld (x.c c_Kind) 0 (.var 0)) (.k (.int (1)))) (.cons false (.bi .tuple (.cons false (.comp (.call (x.f n_closed_up) (.cons false (.var 2) (.cons false (.var 1) .nil))) (.one 2) (.e (.fld (x.c c_Kind) 1 (.var 0))) (.yes (.op .nmem (.var 1) (.var 2))) [2]) .nil)) .nil))))
 .nil))
def d_without (x : Ix) : Fd := ⟨2, 3, b_without x⟩
-- without 0:kind 1:thing 2:lot
def b_beside (x : Ix) : Ss := (.cons (.ex (.call (x.f n_check_thing) (.cons false (.var 0) (.cons false (.var 1) .nil))))
 (.cons (.ite (.op .nmem (.tup (.cons false (.var 1) .nil)) (.fld (x.c c_Kind) 1 (.var 0))) (.cons (.raise (x.c c_BadThing) .nil)
 .nil) .nil)
 (.cons (.ret (.mk (x.c c_Kind) (.cons false (.op .sub (.fld (x.c c_Kind) 0 (.var 0)) (.k (.int (1)))) (.cons false (.bi .tuple (.cons false (.comp (.call (x.f n_closed_up) (.cons false (.var 2) (.cons false (.var 1) .nil))) (.one 2) (.e (.fld (x.c c_Kind) 1 (.var 0))) (.yes (.op .mem (.var 1) (.var 2))) [2]) .nil)) .nil))))
 .nil)))
def d_beside (x : Ix) : Fd := ⟨2, 3, b_beside x⟩
-- beside 0:kind 1:thing 2:lot
def b_cut (x : Ix) : Ss := (.cons (.ite (.not (.call (x.f n_is_from) (.cons false (.var 1) (.cons false (.k (.int (0))) (.cons false (.glob (x.g g_MOST_THINGS)) .nil))))) (.cons (.raise (x.c c_BadMost) .nil)
 .nil) .nil)
 (.cons (.ret (.mk (x.c c_Kind) (.cons false (.fld (x.c c_Kind) 0 (.var 0)) (.cons false (.bi .tuple (.cons false (.comp (.var 2) (.one 2) (.e (.fld (x.c c_Kind) 1 (.var 0))) (.yes (.op .le (.bi .len (.cons false (.var 2) .nil)) (.var 1))) [2]) .nil)) .nil))))
 .nil))
def d_cut (x : Ix) : Fd := ⟨2, 3, b_cut x⟩
-- cut 0:kind 1:most 2:lot
def b_parting (x : Ix) : Ss := (.cons (.ite (.op .ne (.fld (x.c c_Kind) 0 (.var 0)) (.fld (x.c c_Kind) 0 (.var 1))) (.cons (.raise (x.c c_Unlike) .nil)
 .nil) .nil)
 (.cons (.for_ (.one 2) (.e (.call (x.f n_orders) (.cons false (.fld (x.c c_Kind) 0 (.var 0)) .nil))) (.cons (.set 3 false (.call (x.f n_falling) (.cons false (.var 2) .nil)))
 (.cons (.ite (.op .ne (.call (x.f n_taken_by) (.cons false (.var 0) (.cons false (.var 3) .nil))) (.call (x.f n_taken_by) (.cons false (.var 1) (.cons false (.var 3) .nil)))) (.cons (.ret (.var 3))
 .nil) .nil)
 .nil)))
 (.cons (.ret (.k .non))
 .nil)))
def d_parting (x : Ix) : Fd := ⟨2, 4, b_parting x⟩
-- parting 0:one 1:other 2:order 3:weights
def b_alike (x : Ix) : Ss := (.cons (.ret (.isN (.call (x.f n_parting) (.cons false (.var 0) (.cons false (.var 1) .nil)))))
 .nil)
def d_alike (x : Ix) : Fd := ⟨2, 2, b_alike x⟩
-- alike 0:one 1:other
def b_Plan___init__ (x : Ix) : Ss := (.cons (.ex (.call (x.f n_check_weights) (.cons false (.var 1) (.cons false (.var 2) .nil))))
 (.cons (.setFld (x.c c_Plan) 0 (.var 0) (.var 1))
 (.cons (.setFld (x.c c_Plan) 1 (.var 0) (.tup (.cons false (.var 2) (.cons false (.tup .nil) .nil))))
 (.cons (.setFld (x.c c_Plan) 2 (.var 0) (.tup .nil))
 (.cons (.setFld (x.c c_Plan) 3 (.var 0) (.tup .nil))
 .nil)))))
def d_Plan___init__ (x : Ix) : Fd := ⟨3, 3, b_Plan___init__ x⟩
-- Plan___init__ 0:self 1:kind 2:weights
def b_Plan_kind (x : Ix) : Ss := (.cons (.ret (.fld (x.c c_Plan) 0 (.var 0)))
 .nil)
def d_Plan_kind (x : Ix) : Fd := ⟨1, 1, b_Plan_kind x⟩
-- Plan_kind 0:self
def b_Plan_weights (x : Ix) : Ss := (.cons (.ret (.sub (.fld (x.c c_Plan) 1 (.var 0)) (.k (.int (0)))))
 .nil)
def d_Plan_weights (x : Ix) : Fd := ⟨1, 1, b_Plan_weights x⟩
-- Plan_weights 0:self
def b_Plan_row (x : Ix) : Ss := (.cons (.ret (.sub (.fld (x.c c_Plan) 1 (.var 0)) (.k (.int (1)))))
 .nil)
def d_Plan_row (x : Ix) : Fd := ⟨1, 1, b_Plan_row x⟩
-- Plan_row 0:self
def b_Plan_lot (x : Ix) : Ss := (.cons (.ret (.bi .tuple (.cons false (.bi .sorted (.cons false (.sub (.fld (x.c c_Plan) 1 (.var 0)) (.k (.int (1)))) .nil)) .nil)))
 .nil)
def d_Plan_lot (x : Ix) : Fd := ⟨1, 1, b_Plan_lot x⟩
-- Plan_lot 0:self
def b_Plan___len__ (x : Ix) : Ss := (.cons (.ret (.bi .len (.cons false (.fld (x.c c_Plan) 2 (.var 0)) .nil)))
 .nil)
def d_Plan___len__ (x : Ix) : Fd := ⟨1, 1, b_Plan___len__ x⟩
-- Plan___len__ 0:self
def b_Plan_become (x : Ix) : Ss := (.cons (.setFld (x.c c_Plan) 2 (.var 0) (.tup (.cons true (.fld (x.c c_Plan) 2 (.var 0)) (.cons false (.fld (x.c c_Plan) 1 (.var 0)) .nil))))
 (.cons (.setFld (x.c c_Plan) 3 (.var 0) (.tup .nil))
 (.cons (.setFld (x.c c_Plan) 1 (.var 0) (.tup (.cons false (.var 1) (.cons false (.var 2) .nil))))
 .nil)))
def d_Plan_become (x : Ix) : Fd := ⟨3, 3, b_Plan_become x⟩
-- Plan_become 0:self 1:weights 2:row
def b_Plan_open_things (x : Ix) : Ss := (.cons (.ret (.call (x.f n_added) (.cons false (.fld (x.c c_Plan) 0 (.var 0)) (.cons false (.prop (x.c c_Plan) (x.f n_Plan_lot) (.var 0)) .nil))))
 .nil)
def d_Plan_open_things (x : Ix) : Fd := ⟨1, 1, b_Plan_open_things x⟩
-- Plan_open_things 0:self
def b_Plan_put (x : Ix) : Ss := (.cons (.ite (.or (.not (.call (x.f n_is_from) (.cons false (.var 1) (.cons false (.k (.int (0))) (.cons false (.op .sub (.fld (x.c c_Kind) 0 (.fld (x.c c_Plan) 0 (.var 0))) (.k (.int (1)))) .nil))))) (.op .nmem (.var 1) (.meth (x.c c_Plan) (x.f n_Plan_open_things) (.var 0) .nil))) (.cons (.raise (x.c c_BadThing) .nil)
 .nil) .nil)
 (.cons (.ex (.meth (x.c c_Plan) (x.f n_Plan_become) (.var 0) (.cons false (.sub (.fld (x.c c_Plan) 1 (.var 0)) (.k (.int (0)))) (.cons false (.tup (.cons true (.sub (.fld (x.c c_Plan) 1 (.var 0)) (.k (.int (1)))) (.cons false (.var 1) .nil))) .nil))))
 .nil))
def d_Plan_put (x : Ix) : Fd := ⟨2, 2, b_Plan_put x⟩
-- Plan_put 0:self 1:thing
def b_Plan_take (x : Ix) : Ss := (.cons (.set 1 false (.call (x.f n_next_thing) (.cons false (.fld (x.c c_Plan) 0 (.var 0)) (.cons false (.prop (x.c c_Plan) (x.f n_Plan_lot) (.var 0)) (.cons false (.sub (.fld (x.c c_Plan) 1 (.var 0)) (.k (.int (0)))) .nil)))))
 (.cons (.ite (.notN (.var 1)) (.cons (.ex (.meth (x.c c_Plan) (x.f n_Plan_become) (.var 0) (.cons false (.sub (.fld (x.c c_Plan) 1 (.var 0)) (.k (.int (0)))) (.cons false (.tup (.cons true (.sub (.fld (x.c c_Plan) 1 (.var 0)) (.k (.int (1)))) (.cons false (.var 1) .nil))) .nil))))
 .nil) .nil)
 (.cons (.ret (.var 1))
 .nil)))
def d_Plan_take (x : Ix) : Fd := ⟨1, 2, b_Plan_take x⟩
-- Plan_take 0:self 1:thing
def b_Plan_weigh (x : Ix) : Ss := (.cons (.ite (.not (.call (x.f n_is_from) (.cons false (.var 1) (.cons false (.k (.int (0))) (.cons false (.op .sub (.fld (x.c c_Kind) 0 (.fld (x.c c_Plan) 0 (.var 0))) (.k (.int (1)))) .nil))))) (.cons (.raise (x.c c_BadThing) .nil)
 .nil) .nil)
 (.cons (.ite (.not (.call (x.f n_is_from) (.cons false (.var 2) (.cons false (.op .sub (.k (.int (0))) (.glob (x.g g_MOST_WEIGHT))) (.cons false (.glob (x.g g_MOST_WEIGHT)) .nil))))) (.cons (.raise (x.c c_BadWeights) .nil)
 .nil) .nil)
 (.cons (.set 3 false (.sub (.fld (x.c c_Plan) 1 (.var 0)) (.k (.int (0)))))
 (.cons (.ex (.meth (x.c c_Plan) (x.f n_Plan_become) (.var 0) (.cons false (.tup (.cons true (.slice (.var 3) .no (.yes (.var 1))) (.cons false (.var 2) (.cons true (.slice (.var 3) (.yes (.op .add (.var 1) (.k (.int (1))))) .no) .nil)))) (.cons false (.sub (.fld (x.c c_Plan) 1 (.var 0)) (.k (.int (1)))) .nil))))
 .nil))))
def d_Plan_weigh (x : Ix) : Fd := ⟨3, 4, b_Plan_weigh x⟩
-- Plan_weigh 0:self 1:thing 2:weight 3:weights
def b_Plan_undo (x : Ix) : Ss := (.cons (.ite (.op .eq (.bi .len (.cons false (.fld (x.c c_Plan) 2 (.var 0)) .nil)) (.k (.int (0)))) (.cons (.ret (.k (.bl false)))
 .nil) .nil)
 (.cons (.setFld (x.c c_Plan) 3 (.var 0) (.tup (.cons true (.fld (x.c c_Plan) 3 (.var 0)) (.cons false (.fld (x.c c_Plan) 1 (.var 0)) .nil))))
 (.cons (.setFld (x.c c_Plan) 1 (.var 0) (.sub (.fld (x.c c_Plan) 2 (.var 0)) (.neg (.k (.int (1))))))
 (.cons (.setFld (x.c c_Plan) 2 (.var 0) (.slice (.fld (x.c c_Plan) 2 (.var 0)) .no (.yes (.neg (.k (.int (1)))))))
 (.cons (.ret (.k (.bl true)))
 .nil)))))
def d_Plan_undo (x : Ix) : Fd := ⟨1, 1, b_Plan_undo x⟩
-- Plan_undo 0:self
def b_Plan_redo (x : Ix) : Ss := (.cons (.ite (.op .eq (.bi .len (.cons false (.fld (x.c c_Plan) 3 (.var 0)) .nil)) (.k (.int (0)))) (.cons (.ret (.k (.bl false)))
 .nil) .nil)
 (.cons (.setFld (x.c c_Plan) 2 (.var 0) (.tup (.cons true (.fld (x.c c_Plan) 2 (.var 0)) (.cons false (.fld (x.c c_Plan) 1 (.var 0)) .nil))))
 (.cons (.setFld (x.c c_Plan) 1 (.var 0) (.sub (.fld (x.c c_Plan) 3 (.var 0)) (.neg (.k (.int (1))))))
 (.cons (.setFld (x.c c_Plan) 3 (.var 0) (.slice (.fld (x.c c_Plan) 3 (.var 0)) .no (.yes (.neg (.k (.int (1)))))))
 (.cons (.ret (.k (.bl true)))
 .nil)))))
def d_Plan_redo (x : Ix) : Fd := ⟨1, 1, b_Plan_redo x⟩
-- Plan_redo 0:self
def b_BadLine___init__ (x : Ix) : Ss := (.cons .bad .nil)
def d_BadLine___init__ (x : Ix) : Fd := ⟨3, 3, b_BadLine___init__ x⟩
-- BadLine___init__ 0:self 1:line 2:word
def b_write (x : Ix) : Ss := (.cons (.set 1 false (.lst (.cons false (.fstr [116, 104, 105, 110, 103, 115, 32] (.fld (x.c c_Kind) 0 (.var 0))) .nil)))
 (.cons (.ret (.bi .join (.cons false (.k (.str [10])) (.cons false (.op .add (.var 1) (.comp (.bi .join (.cons false (.k (.str [32])) (.cons false (.op .add (.lst (.cons false (.k (.str [108, 111, 116])) .nil)) (.comp (.bi .str (.cons false (.var 3) .nil)) (.one 3) (.e (.var 2)) .no [3])) .nil))) (.one 2) (.e (.fld (x.c c_Kind) 1 (.var 0))) (.yes (.op .ne (.var 2) (.tup .nil))) [2])) .nil))))
 .nil))
def d_write (x : Ix) : Fd := ⟨1, 4, b_write x⟩
-- write 0:kind 1:lines 2:lot 3:thing
def b_number_at (x : Ix) : Ss := (.cons (.ite (.or (.op .ge (.var 2) (.bi .len (.cons false (.var 1) .nil))) (.or (.op .ne (.bi .len (.cons false (.sub (.var 1) (.var 2)) .nil)) (.k (.int (1)))) (.or (.op .nmem (.sub (.var 1) (.var 2)) (.glob (x.g g_FIGURES))) (.not (.chain .le .le (.var 3) (.bi .int (.cons false (.sub (.var 1) (.var 2)) .nil)) (.var 4)))))) (.cons (.raise (x.c c_BadLine) (.cons false (.var 0) (.cons false (.var 2) .nil)))
 .nil) .nil)
 (.cons (.ret (.bi .int (.cons false (.sub (.var 1) (.var 2)) .nil)))
 .nil))
def d_number_at (x : Ix) : Fd := ⟨5, 5, b_number_at x⟩
-- number_at 0:number 1:words 2:at 3:low 4:high
def b_lot_of (x : Ix) : Ss := (.cons (.ite (.op .ne (.sub (.var 1) (.k (.int (0)))) (.k (.str [108, 111, 116]))) (.cons (.raise (x.c c_BadLine) (.cons false (.var 0) (.cons false (.k (.int (0))) .nil)))
 .nil) .nil)
 (.cons (.set 3 true (.lst (.cons false (.call (x.f n_number_at) (.cons false (.var 0) (.cons false (.var 1) (.cons false (.k (.int (1))) (.cons false (.k (.int (0))) (.cons false (.op .sub (.var 2) (.k (.int (1)))) .nil)))))) .nil)))
 (.cons (.for_ (.one 4) (.range2 (.k (.int (2))) (.bi .len (.cons false (.var 1) .nil))) (.cons (.ex (.app (.var 3) (.call (x.f n_number_at) (.cons false (.var 0) (.cons false (.var 1) (.cons false (.var 4) (.cons false (.op .add (.sub (.var 3) (.neg (.k (.int (1))))) (.k (.int (1)))) (.cons false (.op .sub (.var 2) (.k (.int (1)))) .nil))))))))
 .nil))
 (.cons (.ret (.bi .tuple (.cons false (.var 3) .nil)))
 .nil))))
def d_lot_of (x : Ix) : Fd := ⟨3, 5, b_lot_of x⟩
-- lot_of 0:number 1:words 2:things 3:found 4:at
def b_read (x : Ix) : Ss := (.cons (.ite (.not (.bi (.isT .str x.obs) (.cons false (.var 0) .nil))) (.cons (.raise (x.c c_BadLine) (.cons false (.k .non) (.cons false (.k .non) .nil)))
 .nil) .nil)
 (.cons (.set 1 false (.comp (.bi .split (.cons false (.var 7) (.cons false (.k (.str [32])) .nil))) (.one 7) (.e (.bi .split (.cons false (.var 0) (.cons false (.k (.str [10])) .nil)))) .no [7]))
 (.cons (.ite (.op .ne (.sub (.sub (.var 1) (.k (.int (0)))) (.k (.int (0)))) (.k (.str [116, 104, 105, 110, 103, 115]))) (.cons (.raise (x.c c_BadLine) (.cons false (.k (.int (0))) (.cons false (.k (.int (0))) .nil)))
 .nil) .nil)
 (.cons (.set 2 false (.call (x.f n_number_at) (.cons false (.k (.int (0))) (.cons false (.sub (.var 1) (.k (.int (0)))) (.cons false (.k (.int (1))) (.cons false (.k (.int (1))) (.cons false (.glob (x.g g_MOST_THINGS)) .nil)))))))
 (.cons (.ite (.op .gt (.bi .len (.cons false (.sub (.var 1) (.k (.int (0)))) .nil)) (.k (.int (2)))) (.cons (.raise (x.c c_BadLine) (.cons false (.k (.int (0))) (.cons false (.k (.int (2))) .nil)))
 .nil) .nil)
 (.cons (.set 3 true (.lst (.cons false (.tup .nil) .nil)))
 (.cons (.for_ (.two 4 5) (.enum (.slice (.var 1) (.yes (.k (.int (1)))) .no)) (.cons (.set 6 false (.call (x.f n_lot_of) (.cons false (.op .add (.var 4) (.k (.int (1)))) (.cons false (.var 5) (.cons false (.var 2) .nil)))))
 (.cons (.ite (.op .le (.var 6) (.sub (.var 3) (.neg (.k (.int (1)))))) (.cons (.raise (x.c c_BadLine) (.cons false (.op .add (.var 4) (.k (.int (1)))) (.cons false (.k (.int (0))) .nil)))
 .nil) .nil)
 (.cons (.ex (.app (.var 3) (.var 6)))
 .nil))))
 (.cons (.ret (.mk (x.c c_Kind) (.cons false (.var 2) (.cons false (.bi .tuple (.cons false (.var 3) .nil)) .nil))))
 .nil))))))))
def d_read (x : Ix) : Fd := ⟨1, 8, b_read x⟩
-- read 0:text 1:rows 2:things 3:lots 4:at 5:words 6:lot 7:row
def b_BadSeen___init__ (x : Ix) : Ss := (.cons .bad .nil)
def d_BadSeen___init__ (x : Ix) : Fd := ⟨2, 2, b_BadSeen___init__ x⟩
-- BadSeen___init__ 0:self 1:index
def b_is_case (x : Ix) : Ss := (.cons (.ite (.or (.not (.bi (.isT .tuple x.obs) (.cons false (.var 1) .nil))) (.or (.op .ne (.bi .len (.cons false (.var 1) .nil)) (.k (.int (3)))) (.not (.bi (.isT .tuple x.obs) (.cons false (.sub (.var 1) (.k (.int (0)))) .nil))))) (.cons (.ret (.k (.bl false)))
 .nil) .nil)
 (.cons (.unp [2, 3, 4] (.var 1))
 (.cons (.ite (.or (.op .ne (.bi .len (.cons false (.var 2) .nil)) (.fld (x.c c_Kind) 0 (.var 0))) (.not (.bi .all (.cons false (.comp (.call (x.f n_is_from) (.cons false (.var 5) (.cons false (.op .sub (.k (.int (0))) (.glob (x.g g_MOST_WEIGHT))) (.cons false (.glob (x.g g_MOST_WEIGHT)) .nil)))) (.one 5) (.e (.var 2)) .no [5]) .nil)))) (.cons (.ret (.k (.bl false)))
 .nil) .nil)
 (.cons (.ret (.and (.bi (.isT .tuple x.obs) (.cons false (.var 3) .nil)) (.and (.op .eq (.var 3) (.bi .tuple (.cons false (.bi .sorted (.cons false (.call (x.f n_taken_by) (.cons false (.var 0) (.cons false (.var 2) .nil))) .nil)) .nil))) (.call (x.f n_is_full) (.cons false (.var 0) (.cons false (.var 4) .nil))))))
 .nil))))
def d_is_case (x : Ix) : Fd := ⟨2, 6, b_is_case x⟩
-- is_case 0:kind 1:value 2:weights 3:lot 4:better 5:one
def b_is_full (x : Ix) : Ss := (.cons (.ret (.and (.bi (.isT .tuple x.obs) (.cons false (.var 1) .nil)) (.and (.bi .all (.cons false (.comp (.call (x.f n_is_from) (.cons false (.var 2) (.cons false (.k (.int (0))) (.cons false (.op .sub (.fld (x.c c_Kind) 0 (.var 0)) (.k (.int (1)))) .nil)))) (.one 2) (.e (.var 1)) .no [2]) .nil)) (.op .mem (.var 1) (.call (x.f n_full) (.cons false (.var 0) .nil))))))
 .nil)
def d_is_full (x : Ix) : Fd := ⟨2, 3, b_is_full x⟩
-- is_full 0:kind 1:value 2:one
def b_right_fooling (x : Ix) : Ss := (.cons (.ite (.or (.not (.call (x.f n_is_case) (.cons false (.var 0) (.cons false (.var 1) .nil)))) (.not (.bi .all (.cons false (.comp (.call (x.f n_is_from) (.cons false (.var 5) (.cons false (.k (.int (0))) (.cons false (.op .sub (.fld (x.c c_Kind) 0 (.var 0)) (.k (.int (1)))) .nil)))) (.one 5) (.e (.sub (.var 1) (.k (.int (1))))) .no [5]) .nil)))) (.cons (.ret (.k (.bl false)))
 .nil) .nil)
 (.cons (.unp [2, 3, 4] (.var 1))
 (.cons (.ret (.op .lt (.bi .sum (.cons false (.comp (.sub (.var 2) (.var 6)) (.one 6) (.e (.var 3)) .no [6]) .nil)) (.bi .sum (.cons false (.comp (.sub (.var 2) (.var 6)) (.one 6) (.e (.var 4)) .no [6]) .nil))))
 .nil)))
def d_right_fooling (x : Ix) : Fd := ⟨2, 7, b_right_fooling x⟩
-- right_fooling 0:kind 1:value 2:weights 3:lot 4:better 5:one 6:thing
def b_right_fooling_least (x : Ix) : Ss := (.cons (.ite (.or (.not (.call (x.f n_is_case) (.cons false (.var 0) (.cons false (.var 1) .nil)))) (.not (.bi .all (.cons false (.comp (.call (x.f n_is_from) (.cons false (.var 5) (.cons false (.k (.int (0))) (.cons false (.op .sub (.fld (x.c c_Kind) 0 (.var 0)) (.k (.int (1)))) .nil)))) (.one 5) (.e (.sub (.var 1) (.k (.int (1))))) .no [5]) .nil)))) (.cons (.ret (.k (.bl false)))
 .nil) .nil)
 (.cons (.unp [2, 3, 4] (.var 1))
 (.cons (.ret (.op .lt (.call (x.f n_poorest) (.cons false (.var 3) (.cons false (.var 2) .nil))) (.call (x.f n_poorest) (.cons false (.var 4) (.cons false (.var 2) .nil)))))
 .nil)))
def d_right_fooling_least (x : Ix) : Fd := ⟨2, 6, b_right_fooling_least x⟩
-- right_fooling_least 0:kind 1:value 2:weights 3:lot 4:better 5:one
def b_divisor (x : Ix) : Ss := (.cons (.while_ (.op .ne (.var 1) (.k (.int (0)))) (.cons (.par 0 false 1 false (.var 1) (.op .mod (.var 0) (.var 1)))
 .nil))
 (.cons (.ret (.var 0))
 .nil))
def d_divisor (x : Ix) : Fd := ⟨2, 2, b_divisor x⟩
-- divisor 0:one 1:other
def b_is_less (x : Ix) : Ss := (.cons (.ret (.op .lt (.op .mul (.sub (.var 0) (.k (.int (0)))) (.sub (.var 1) (.k (.int (1))))) (.op .mul (.sub (.var 1) (.k (.int (0)))) (.sub (.var 0) (.k (.int (1)))))))
 .nil)
def d_is_less (x : Ix) : Fd := ⟨2, 2, b_is_less x⟩
-- is_less 0:one 1:other
def b_all_cases (x : Ix) : Ss := (.cons (.par 1 false 2 true (.call (x.f n_full) (.cons false (.var 0) .nil)) (.lst .nil))
 (.cons (.for_ (.one 3) (.e (.call (x.f n_orders) (.cons false (.fld (x.c c_Kind) 0 (.var 0)) .nil))) (.cons (.set 4 false (.call (x.f n_taken_by) (.cons false (.var 0) (.cons false (.call (x.f n_falling) (.cons false (.var 3) .nil)) .nil))))
 (.cons (.for_ (.one 5) (.range2 (.k (.int (1))) (.op .add (.fld (x.c c_Kind) 0 (.var 0)) (.k (.int (1))))) (.cons (.set 6 false (.bi .len (.cons false (.comp (.var 9) (.one 9) (.e (.var 4)) (.yes (.op .mem (.var 9) (.slice (.var 3) .no (.yes (.var 5))))) [9]) .nil)))
 (.cons (.for_ (.one 7) (.e (.var 1)) (.cons (.set 8 false (.bi .len (.cons false (.comp (.var 9) (.one 9) (.e (.var 7)) (.yes (.op .mem (.var 9) (.slice (.var 3) .no (.yes (.var 5))))) [9]) .nil)))
 (.cons (.ite (.op .gt (.var 8) (.k (.int (0)))) (.cons (.ex (.app (.var 2) (.tup (.cons false (.tup (.cons false (.var 6) (.cons false (.var 8) .nil))) (.cons false (.var 3) (.cons false (.var 5) (.cons false (.var 7) .nil)))))))
 .nil) .nil)
 .nil)))
 .nil)))
 .nil)))
 (.cons (.ret (.var 2))
 .nil)))
def d_all_cases (x : Ix) : Fd := ⟨1, 10, b_all_cases x⟩
-- all_cases 0:kind 1:some 2:found 3:order 4:lot 5:many 6:own 7:other 8:more 9:one
def b_worst (x : Ix) : Ss := (.cons (.set 1 false (.k .non))
 (.cons (.for_ (.one 2) (.e (.call (x.f n_all_cases) (.cons false (.var 0) .nil))) (.cons (.ite (.and (.op .lt (.sub (.sub (.var 2) (.k (.int (0)))) (.k (.int (0)))) (.sub (.sub (.var 2) (.k (.int (0)))) (.k (.int (1))))) (.or (.isN (.var 1)) (.call (x.f n_is_less) (.cons false (.sub (.var 2) (.k (.int (0)))) (.cons false (.sub (.var 1) (.k (.int (0)))) .nil))))) (.cons (.set 1 false (.var 2))
 .nil) .nil)
 .nil))
 (.cons (.ret (.var 1))
 .nil)))
def d_worst (x : Ix) : Fd := ⟨1, 3, b_worst x⟩
-- worst 0:kind 1:best 2:case
def b_worst_share (x : Ix) : Ss := (.cons (.set 1 false (.call (x.f n_worst) (.cons false (.var 0) .nil)))
 (.cons (.ite (.isN (.var 1)) (.cons (.ret (.tup (.cons false (.k (.int (1))) (.cons false (.k (.int (1))) .nil))))
 .nil) .nil)
 (.cons (.set 2 false (.call (x.f n_divisor) (.cons false (.sub (.sub (.var 1) (.k (.int (0)))) (.k (.int (0)))) (.cons false (.sub (.sub (.var 1) (.k (.int (0)))) (.k (.int (1)))) .nil))))
 (.cons (.ret (.tup (.cons false (.op .fdiv (.sub (.sub (.var 1) (.k (.int (0)))) (.k (.int (0)))) (.var 2)) (.cons false (.op .fdiv (.sub (.sub (.var 1) (.k (.int (0)))) (.k (.int (1)))) (.var 2)) .nil))))
 .nil))))
def d_worst_share (x : Ix) : Fd := ⟨1, 3, b_worst_share x⟩
-- worst_share 0:kind 1:case 2:common
def b_worst_case (x : Ix) : Ss := (.cons (.set 1 false (.call (x.f n_worst) (.cons false (.var 0) .nil)))
 (.cons (.ret (.ite (.notN (.var 1)) (.slice (.var 1) (.yes (.k (.int (1)))) .no) (.k .non)))
 .nil))
def d_worst_case (x : Ix) : Fd := ⟨1, 2, b_worst_case x⟩
-- worst_case 0:kind 1:case
def b_changes (x : Ix) : Ss := (.cons (.par 2 false 3 true (.tup .nil) (.lst .nil))
 (.cons (.for_ (.one 4) (.e (.call (x.f n_taken_by) (.cons false (.var 0) (.cons false (.var 1) .nil)))) (.cons (.for_ (.one 5) (.e (.call (x.f n_added) (.cons false (.var 0) (.cons false (.var 2) .nil)))) (.cons (.ite (.op .ne (.var 5) (.var 4)) (.cons (.set 6 false (.op .add (.op .sub (.sub (.var 1) (.var 4)) (.sub (.var 1) (.var 5))) (.bi .int (.cons false (.op .gt (.var 5) (.var 4)) .nil))))
 (.cons (.ex (.app (.var 3) (.tup (.cons false (.op .fdiv (.op .add (.var 6) (.k (.int (1)))) (.k (.int (2)))) (.cons false (.var 4) (.cons false (.var 5) .nil))))))
 .nil)) .nil)
 .nil))
 (.cons (.set 2 false (.call (x.f n_with_thing) (.cons false (.var 2) (.cons false (.var 4) .nil))))
 .nil)))
 (.cons (.ret (.var 3))
 .nil)))
def d_changes (x : Ix) : Fd := ⟨2, 7, b_changes x⟩
-- changes 0:kind 1:weights 2:lot 3:found 4:thing 5:other 6:far
def b_margin (x : Ix) : Ss := (.cons (.ex (.call (x.f n_check_weights) (.cons false (.var 0) (.cons false (.var 1) .nil))))
 (.cons (.set 2 false (.call (x.f n_changes) (.cons false (.var 0) (.cons false (.var 1) .nil))))
 (.cons (.ret (.ite (.op .gt (.bi .len (.cons false (.var 2) .nil)) (.k (.int (0)))) (.sub (.bi .min (.cons false (.var 2) .nil)) (.k (.int (0)))) (.k .non)))
 .nil)))
def d_margin (x : Ix) : Fd := ⟨2, 3, b_margin x⟩
-- margin 0:kind 1:weights 2:some
def b_nudged (x : Ix) : Ss := (.cons (.ex (.call (x.f n_check_weights) (.cons false (.var 0) (.cons false (.var 1) .nil))))
 (.cons (.set 2 false (.call (x.f n_changes) (.cons false (.var 0) (.cons false (.var 1) .nil))))
 (.cons (.ite (.op .eq (.bi .len (.cons false (.var 2) .nil)) (.k (.int (0)))) (.cons (.ret (.k .non))
 .nil) .nil)
 (.cons (.unp [3, 4, 5] (.bi .min (.cons false (.var 2) .nil)))
 (.cons (.set 6 true (.bi .list (.cons false (.var 1) .nil)))
 (.cons (.parItem (.var 6) (.var 4) (.var 6) (.var 5) (.op .sub (.sub (.var 6) (.var 4)) (.var 3)) (.op .add (.sub (.var 6) (.var 5)) (.var 3)))
 (.cons (.ret (.bi .tuple (.cons false (.var 6) .nil)))
 .nil)))))))
def d_nudged (x : Ix) : Fd := ⟨2, 7, b_nudged x⟩
-- nudged 0:kind 1:weights 2:some 3:far 4:thing 5:other 6:found
def b_rows_taken (x : Ix) : Ss := (.cons (.ret (.bi .sortSet (.cons false (.comp (.call (x.f n_taken_by) (.cons false (.var 0) (.cons false (.call (x.f n_falling) (.cons false (.var 1) .nil)) .nil))) (.one 1) (.e (.call (x.f n_orders) (.cons false (.fld (x.c c_Kind) 0 (.var 0)) .nil))) .no [1]) .nil)))
 .nil)
def d_rows_taken (x : Ix) : Fd := ⟨1, 2, b_rows_taken x⟩
-- rows_taken 0:kind 1:order
def b_weights_for (x : Ix) : Ss := (.cons (.for_ (.one 2) (.e (.call (x.f n_orders) (.cons false (.fld (x.c c_Kind) 0 (.var 0)) .nil))) (.cons (.ite (.and (.bi (.isT .tuple x.obs) (.cons false (.var 1) .nil)) (.call (x.f n_are_like) (.cons false (.call (x.f n_taken_by) (.cons false (.var 0) (.cons false (.call (x.f n_falling) (.cons false (.var 2) .nil)) .nil))) (.cons false (.var 1) .nil)))) (.cons (.ret (.call (x.f n_falling) (.cons false (.var 2) .nil)))
 .nil) .nil)
 .nil))
 (.cons (.ret (.k .non))
 .nil))
def d_weights_for (x : Ix) : Fd := ⟨2, 3, b_weights_for x⟩
-- weights_for 0:kind 1:row 2:order
def b_are_like (x : Ix) : Ss := (.cons (.ret (.and (.op .eq (.bi .len (.cons false (.var 0) .nil)) (.bi .len (.cons false (.var 1) .nil))) (.bi .all (.cons false (.comp (.call (x.f n_is_from) (.cons false (.var 2) (.cons false (.var 3) (.cons false (.var 3) .nil)))) (.two 2 3) (.zip (.var 1) (.var 0)) .no [2, 3]) .nil))))
 .nil)
def d_are_like (x : Ix) : Fd := ⟨2, 4, b_are_like x⟩
-- are_like 0:row 1:value 2:one 3:thing
def b_all_sets (x : Ix) : Ss := (.cons (.set 1 false (.lst (.cons false (.tup .nil) .nil)))
 (.cons (.for_ (.one 2) (.range1 (.var 0)) (.cons (.set 1 false (.op .add (.var 1) (.comp (.tup (.cons true (.var 3) (.cons false (.var 2) .nil))) (.one 3) (.e (.var 1)) .no [3])))
 .nil))
 (.cons (.ret (.slice (.bi .sorted (.cons false (.var 1) .nil)) (.yes (.k (.int (1)))) .no))
 .nil)))
def d_all_sets (x : Ix) : Fd := ⟨1, 4, b_all_sets x⟩
-- all_sets 0:things 1:found 2:thing 3:some
def b_all_kinds (x : Ix) : Ss := (.cons (.set 1 false (.lst (.cons false (.tup (.cons false (.tup .nil) .nil)) .nil)))
 (.cons (.for_ (.one 2) (.e (.call (x.f n_all_sets) (.cons false (.var 0) .nil))) (.cons (.set 1 false (.op .add (.var 1) (.comp (.tup (.cons true (.var 3) (.cons false (.var 2) .nil))) (.one 3) (.e (.var 1)) .no [3])))
 .nil))
 (.cons (.ret (.comp (.mk (x.c c_Kind) (.cons false (.var 0) (.cons false (.var 3) .nil))) (.one 3) (.e (.var 1)) .no [3]))
 .nil)))
def d_all_kinds (x : Ix) : Fd := ⟨1, 4, b_all_kinds x⟩
-- all_kinds 0:things 1:found 2:some 3:lots
def b_check_things (x : Ix) : Ss := (.cons (.ite (.not (.call (x.f n_is_from) (.cons false (.var 0) (.cons false (.k (.int (1))) (.cons false (.glob (x.g g_MOST_BACK)) .nil))))) (.cons (.raise (x.c c_BadThings) .nil)
 .nil) .nil)
 .nil)
def d_check_things (x : Ix) : Fd := ⟨1, 1, b_check_things x⟩
-- check_things 0:things
def b_is_row (x : Ix) : Ss := (.cons (.ite (.or (.not (.bi (.isT .tuple x.obs) (.cons false (.var 1) .nil))) (.not (.bi .all (.cons false (.comp (.call (x.f n_is_from) (.cons false (.var 2) (.cons false (.k (.int (0))) (.cons false (.op .sub (.var 0) (.k (.int (1)))) .nil)))) (.one 2) (.e (.var 1)) .no [2]) .nil)))) (.cons (.ret (.k (.bl false)))
 .nil) .nil)
 (.cons (.ret (.op .eq (.bi .lenSet (.cons false (.var 1) .nil)) (.bi .len (.cons false (.var 1) .nil))))
 .nil))
def d_is_row (x : Ix) : Fd := ⟨2, 3, b_is_row x⟩
-- is_row 0:things 1:value 2:one
def b_are_weights (x : Ix) : Ss := (.cons (.ite (.or (.not (.bi (.isT .tuple x.obs) (.cons false (.var 1) .nil))) (.op .ne (.bi .len (.cons false (.var 1) .nil)) (.var 0))) (.cons (.ret (.k (.bl false)))
 .nil) .nil)
 (.cons (.ret (.bi .all (.cons false (.comp (.call (x.f n_is_from) (.cons false (.var 2) (.cons false (.op .sub (.k (.int (0))) (.glob (x.g g_MOST_WEIGHT))) (.cons false (.glob (x.g g_MOST_WEIGHT)) .nil)))) (.one 2) (.e (.var 1)) .no [2]) .nil)))
 .nil))
def d_are_weights (x : Ix) : Fd := ⟨2, 3, b_are_weights x⟩
-- are_weights 0:things 1:value 2:one
def b_check_seen (x : Ix) : Ss := (.cons (.ite (.not (.bi (.isT .lt x.obs) (.cons false (.var 1) .nil))) (.cons (.raise (x.c c_BadSeen) (.cons false (.k .non) .nil))
 .nil) .nil)
 (.cons (.for_ (.two 2 3) (.enum (.var 1)) (.cons (.ite (.or (.not (.bi (.isT .tuple x.obs) (.cons false (.var 3) .nil))) (.op .ne (.bi .len (.cons false (.var 3) .nil)) (.k (.int (2))))) (.cons (.raise (x.c c_BadSeen) (.cons false (.var 2) .nil))
 .nil) .nil)
 (.cons (.ite (.or (.not (.call (x.f n_are_weights) (.cons false (.var 0) (.cons false (.sub (.var 3) (.k (.int (0)))) .nil)))) (.not (.call (x.f n_is_row) (.cons false (.var 0) (.cons false (.sub (.var 3) (.k (.int (1)))) .nil))))) (.cons (.raise (x.c c_BadSeen) (.cons false (.var 2) .nil))
 .nil) .nil)
 .nil)))
 .nil))
def d_check_seen (x : Ix) : Fd := ⟨2, 4, b_check_seen x⟩
-- check_seen 0:things 1:seen 2:index 3:one
def b_fitting (x : Ix) : Ss := (.cons (.ex (.call (x.f n_check_things) (.cons false (.var 0) .nil)))
 (.cons (.ex (.call (x.f n_check_seen) (.cons false (.var 0) (.cons false (.var 1) .nil))))
 (.cons (.set 2 true (.lst .nil))
 (.cons (.for_ (.one 3) (.e (.call (x.f n_all_kinds) (.cons false (.var 0) .nil))) (.cons (.ite (.bi .all (.cons false (.comp (.op .eq (.call (x.f n_taken_by) (.cons false (.var 3) (.cons false (.var 6) .nil))) (.var 7)) (.two 6 7) (.e (.var 1)) .no [6, 7]) .nil)) (.cons (.ex (.app (.var 2) (.fld (x.c c_Kind) 1 (.var 3))))
 .nil) .nil)
 .nil))
 (.cons (.set 4 false (.call (x.f n_all_sets) (.cons false (.var 0) .nil)))
 (.cons (.set 5 false (.comp (.var 8) (.one 8) (.e (.var 4)) (.yes (.and (.op .gt (.bi .len (.cons false (.var 2) .nil)) (.k (.int (0)))) (.bi .all (.cons false (.comp (.op .mem (.var 8) (.var 9)) (.one 9) (.e (.var 2)) .no [9]) .nil)))) [8]))
 (.cons (.ret (.tup (.cons false (.bi .len (.cons false (.var 2) .nil)) (.cons false (.var 5) (.cons false (.comp (.var 8) (.one 8) (.e (.var 4)) (.yes (.bi .any (.cons false (.comp (.op .mem (.var 8) (.var 9)) (.one 9) (.e (.var 2)) .no [9]) .nil))) [8]) .nil)))))
 .nil)))))))
def d_fitting (x : Ix) : Fd := ⟨2, 10, b_fitting x⟩
-- fitting 0:things 1:seen 2:some 3:kind 4:every 5:sure 6:weights 7:row 8:lot 9:told
def b_is_good (x : Ix) : Ss := (.cons (.ite (.op .eq (.var 1) (.k (.str [97, 108, 119, 97, 121, 115]))) (.cons (.ret (.call (x.f n_always) (.cons false (.var 0) .nil)))
 .nil) .nil)
 (.cons (.ite (.op .eq (.var 1) (.k (.str [108, 101, 97, 115, 116]))) (.cons (.ret (.call (x.f n_always_least) (.cons false (.var 0) .nil)))
 .nil) .nil)
 (.cons (.ite (.op .eq (.var 1) (.k (.str [115, 116, 101, 112, 115]))) (.cons (.ret (.isN (.call (x.f n_steps) (.cons false (.var 0) .nil))))
 .nil) .nil)
 (.cons (.ite (.op .eq (.var 1) (.k (.str [101, 120, 116, 101, 110, 100, 115]))) (.cons (.ret (.isN (.call (x.f n_extends) (.cons false (.var 0) .nil))))
 .nil) .nil)
 (.cons (.ret (.ite (.op .eq (.var 1) (.k (.str [97, 103, 114, 101, 101, 115]))) (.isN (.call (x.f n_agrees) (.cons false (.var 0) .nil))) (.isN (.call (x.f n_spreads) (.cons false (.var 0) .nil)))))
 .nil)))))
def d_is_good (x : Ix) : Fd := ⟨2, 2, b_is_good x⟩
-- is_good 0:kind 1:word
def b_how_many (x : Ix) : Ss := (.cons (.ex (.call (x.f n_check_things) (.cons false (.var 0) .nil)))
 (.cons (.ite (.or (.not (.bi (.isT .str x.obs) (.cons false (.var 1) .nil))) (.op .nmem (.var 1) (.glob (x.g g_WORDS)))) (.cons (.raise (x.c c_BadWord) .nil)
 .nil) .nil)
 (.cons (.ret (.bi .len (.cons false (.comp (.var 2) (.one 2) (.e (.call (x.f n_all_kinds) (.cons false (.var 0) .nil))) (.yes (.call (x.f n_is_good) (.cons false (.var 2) (.cons false (.var 1) .nil)))) [2]) .nil)))
 .nil)))
def d_how_many (x : Ix) : Fd := ⟨2, 3, b_how_many x⟩
-- how_many 0:things 1:word 2:kind
def b_l_random (x : Ix) : Ss := (.cons (.set 2 false (.var 1))
 (.cons (.for_ (.one 3) (.e (.var 0)) (.cons (.set 2 false (.op .mod (.bi .int (.cons false (.op .add (.op .mul (.var 2) (.k (.int (31)))) (.bi .abs (.cons false (.var 3) .nil))) .nil)) (.k (.int (2147483647)))))
 .nil))
 (.cons (.ret (.op .add (.lst (.cons false (.var 2) (.cons false (.k (.int (0))) .nil))) (.comp (.var 3) (.one 3) (.e (.var 0)) (.yes (.op .ge (.var 3) (.op .pow (.k (.int (10))) (.k (.int (18)))))) [3])))
 .nil)))
def d_l_random (x : Ix) : Fd := ⟨2, 4, b_l_random x⟩
-- l_random 0:script 1:salt 2:seed 3:cell
def b_l_below (x : Ix) : Ss := (.cons (.ite (.and (.op .eq (.sub (.var 0) (.k (.int (1)))) (.k (.int (0)))) (.op .gt (.bi .len (.cons false (.var 0) .nil)) (.k (.int (2))))) (.cons (.setItem (.var 0) (.k (.int (1))) (.popAt (.var 0) (.k (.int (2)))))
 .nil) .nil)
 (.cons (.ite (.op .gt (.sub (.var 0) (.k (.int (1)))) (.k (.int (0)))) (.cons (.set 2 false (.op .mod (.bi .int (.cons false (.sub (.var 0) (.k (.int (1)))) .nil)) (.var 1)))
 (.cons (.setItem (.var 0) (.k (.int (1))) (.op .fdiv (.sub (.var 0) (.k (.int (1)))) (.var 1)))
 (.cons (.ret (.var 2))
 .nil))) .nil)
 (.cons (.setItem (.var 0) (.k (.int (0))) (.op .mod (.bi .int (.cons false (.op .add (.op .mul (.sub (.var 0) (.k (.int (0)))) (.k (.int (48271)))) (.k (.int (11)))) .nil)) (.k (.int (2147483647)))))
 (.cons (.ret (.op .mod (.bi .int (.cons false (.op .fdiv (.sub (.var 0) (.k (.int (0)))) (.k (.int (64)))) .nil)) (.var 1)))
 .nil))))
def d_l_below (x : Ix) : Fd := ⟨2, 3, b_l_below x⟩
-- l_below 0:d 1:size 2:result
def b_l_pick (x : Ix) : Ss := (.cons (.ret (.sub (.var 1) (.call (x.f n_l_below) (.cons false (.var 0) (.cons false (.bi .len (.cons false (.var 1) .nil)) .nil)))))
 .nil)
def d_l_pick (x : Ix) : Fd := ⟨2, 2, b_l_pick x⟩
-- l_pick 0:d 1:items
def b_l_equal (x : Ix) : Ss := (.cons (.ite (.isN (.var 1)) (.cons (.ret (.isN (.var 0)))
 .nil) .nil)
 (.cons (.ite (.bi (.isT .bool x.obs) (.cons false (.var 1) .nil)) (.cons (.ret (.and (.bi (.isT .bool x.obs) (.cons false (.var 0) .nil)) (.op .eq (.var 0) (.var 1))))
 .nil) .nil)
 (.cons (.ite (.bi (.isT .int x.obs) (.cons false (.var 1) .nil)) (.cons (.ret (.and (.bi (.isT .int x.obs) (.cons false (.var 0) .nil)) (.and (.not (.bi (.isT .bool x.obs) (.cons false (.var 0) .nil))) (.op .eq (.var 0) (.var 1)))))
 .nil) .nil)
 (.cons (.ite (.bi (.isT .str x.obs) (.cons false (.var 1) .nil)) (.cons (.ret (.and (.bi (.isT .str x.obs) (.cons false (.var 0) .nil)) (.op .eq (.var 0) (.var 1))))
 .nil) .nil)
 (.cons (.ite (.bi (.isT .dict x.obs) (.cons false (.var 1) .nil)) (.cons (.ite (.or (.not (.bi (.isT .dict x.obs) (.cons false (.var 0) .nil))) (.op .ne (.bi .list (.cons false (.var 0) .nil)) (.bi .sorted (.cons false (.bi .list (.cons false (.var 1) .nil)) .nil)))) (.cons (.ret (.k (.bl false)))
 .nil) .nil)
 (.cons (.ret (.bi .all (.cons false (.comp (.call (x.f n_l_equal) (.cons false (.sub (.var 0) (.var 2)) (.cons false (.sub (.var 1) (.var 2)) .nil))) (.one 2) (.e (.bi .list (.cons false (.var 0) .nil))) .no [2]) .nil)))
 .nil)) .nil)
 (.cons (.ite (.op .ne (.bi (.isT .tuple x.obs) (.cons false (.var 1) .nil)) (.bi (.isT .tuple x.obs) (.cons false (.var 0) .nil))) (.cons (.ret (.k (.bl false)))
 .nil) .nil)
 (.cons (.ite (.op .ne (.bi (.isT .list x.obs) (.cons false (.var 1) .nil)) (.bi (.isT .list x.obs) (.cons false (.var 0) .nil))) (.cons (.ret (.k (.bl false)))
 .nil) .nil)
 (.cons (.ite (.op .ne (.bi .len (.cons false (.var 0) .nil)) (.bi .len (.cons false (.var 1) .nil))) (.cons (.ret (.k (.bl false)))
 .nil) .nil)
 (.cons (.ret (.bi .all (.cons false (.comp (.call (x.f n_l_equal) (.cons false (.sub (.var 0) (.var 3)) (.cons false (.sub (.var 1) (.var 3)) .nil))) (.one 3) (.range1 (.bi .len (.cons false (.var 1) .nil))) .no [3]) .nil)))
 .nil)))))))))
def d_l_equal (x : Ix) : Fd := ⟨2, 4, b_l_equal x⟩
-- l_equal 0:actual 1:expected 2:key 3:k
def b_l_parts (x : Ix) : Ss := (.cons (.set 1 false (.lst (.cons false (.tup .nil) .nil)))
 (.cons (.for_ (.one 2) (.e (.var 0)) (.cons (.set 1 false (.op .add (.var 1) (.comp (.op .add (.var 3) (.tup (.cons false (.var 2) .nil))) (.one 3) (.e (.var 1)) .no [3])))
 .nil))
 (.cons (.ret (.bi .sorted (.cons false (.var 1) .nil)))
 .nil)))
def d_l_parts (x : Ix) : Fd := ⟨1, 4, b_l_parts x⟩
-- l_parts 0:things 1:found 2:thing 3:some
def b_l_with (x : Ix) : Ss := (.cons (.ret (.bi .tuple (.cons false (.bi .sortSet (.cons false (.op .add (.var 0) (.tup (.cons false (.var 1) .nil))) .nil)) .nil)))
 .nil)
def d_l_with (x : Ix) : Fd := ⟨2, 2, b_l_with x⟩
-- l_with 0:lot 1:thing
def b_l_lots (x : Ix) : Ss := (.cons (.par 2 true 3 false (.lst (.cons false (.tup .nil) .nil)) (.call (x.f n_l_below) (.cons false (.var 0) (.cons false (.k (.int (7))) .nil))))
 (.cons (.ite (.op .eq (.var 3) (.k (.int (0)))) (.cons (.set 4 false (.call (x.f n_l_below) (.cons false (.var 0) (.cons false (.op .add (.var 1) (.k (.int (1)))) .nil))))
 (.cons (.ret (.bi .tuple (.cons false (.comp (.var 7) (.one 7) (.e (.call (x.f n_l_parts) (.cons false (.lrange (.var 1)) .nil))) (.yes (.op .le (.bi .len (.cons false (.var 7) .nil)) (.var 4))) [7]) .nil)))
 .nil)) .nil)
 (.cons (.ite (.op .eq (.var 3) (.k (.int (6)))) (.cons (.set 5 false (.comp (.var 7) (.one 7) (.e (.call (x.f n_l_parts) (.cons false (.lrange (.var 1)) .nil))) (.yes (.op .gt (.bi .len (.cons false (.var 7) .nil)) (.k (.int (1))))) [7]))
 (.cons (.ret (.bi .tuple (.cons false (.op .add (.lst (.cons false (.tup .nil) .nil)) (.comp (.var 7) (.one 7) (.e (.var 5)) (.yes (.op .eq (.call (x.f n_l_below) (.cons false (.var 0) (.cons false (.k (.int (3))) .nil))) (.k (.int (0))))) [7])) .nil)))
 .nil)) .nil)
 (.cons (.for_ (.one 6) (.range1 (.op .add (.k (.int (2))) (.call (x.f n_l_below) (.cons false (.var 0) (.cons false (.call (x.f n_l_pick) (.cons false (.var 0) (.cons false (.lst (.cons false (.k (.int (12))) (.cons false (.k (.int (12))) (.cons false (.k (.int (40))) .nil)))) .nil))) .nil))))) (.cons (.set 7 false (.call (x.f n_l_with) (.cons false (.call (x.f n_l_pick) (.cons false (.var 0) (.cons false (.var 2) .nil))) (.cons false (.call (x.f n_l_below) (.cons false (.var 0) (.cons false (.var 1) .nil))) .nil))))
 (.cons (.ite (.op .nmem (.var 7) (.var 2)) (.cons (.ex (.app (.var 2) (.var 7)))
 .nil) .nil)
 .nil)))
 (.cons (.ite (.op .eq (.var 3) (.k (.int (1)))) (.cons (.set 7 false (.call (x.f n_l_pick) (.cons false (.var 0) (.cons false (.call (x.f n_l_parts) (.cons false (.lrange (.var 1)) .nil)) .nil))))
 (.cons (.set 2 true (.ite (.op .mem (.var 7) (.var 2)) (.var 2) (.op .add (.var 2) (.lst (.cons false (.var 7) .nil)))))
 .nil)) .nil)
 (.cons (.ret (.ite (.op .lt (.var 3) (.k (.int (3)))) (.bi .tuple (.cons false (.rev (.var 2)) .nil)) (.bi .tuple (.cons false (.var 2) .nil))))
 .nil))))))
def d_l_lots (x : Ix) : Fd := ⟨2, 8, b_l_lots x⟩
-- l_lots 0:d 1:things 2:found 3:kind 4:most 5:wide 6:k 7:lot
def b_l_told (x : Ix) : Ss := (.cons (.set 2 true (.lst .nil))
 (.cons (.try_ (.cons (.ex (.mk (x.c c_Kind) (.cons false (.var 0) (.cons false (.var 1) .nil))))
 .nil) [⟨(x.c c_BadThings), none, (.app 2 (.k (.str [116, 104, 105, 110, 103, 115])))⟩, ⟨(x.c c_BadLots), some 3, (.app 2 (.fld 0))⟩])
 (.cons (.ret (.var 2))
 .nil)))
def d_l_told (x : Ix) : Fd := ⟨2, 4, b_l_told x⟩
-- l_told 0:things 1:lots_here 2:found 3:e
def b_law_k01 (x : Ix) : Ss := (.cons (.set 1 true (.call (x.f n_l_random) (.cons false (.var 0) (.cons false (.k (.int (1801))) .nil))))
 (.cons (.set 2 false (.op .add (.k (.int (1))) (.call (x.f n_l_below) (.cons false (.var 1) (.cons false (.k (.int (5))) .nil)))))
 (.cons (.set 3 false (.call (x.f n_l_lots) (.cons false (.var 1) (.cons false (.var 2) .nil))))
 (.cons (.set 4 false (.mk (x.c c_Kind) (.cons false (.var 2) (.cons false (.var 3) .nil))))
 (.cons (.ite (.or (.not (.call (x.f n_l_equal) (.cons false (.prop (x.c c_Kind) (x.f n_Kind_things) (.var 4)) (.cons false (.var 2) .nil)))) (.not (.call (x.f n_l_equal) (.cons false (.prop (x.c c_Kind) (x.f n_Kind_lots) (.var 4)) (.cons false (.bi .tuple (.cons false (.bi .sorted (.cons false (.var 3) .nil)) .nil)) .nil))))) (.cons (.ret (.k (.bl false)))
 .nil) .nil)
 (.cons (.ite (.or (.not (.op .eq (.var 4) (.mk (x.c c_Kind) (.cons false (.var 2) (.cons false (.rev (.var 3)) .nil))))) (.or (.op .eq (.var 4) (.tup (.cons false (.var 2) (.cons false (.var 3) .nil)))) (.op .ne (.var 4) (.mk (x.c c_Kind) (.cons false (.var 2) (.cons false (.var 3) .nil)))))) (.cons (.ret (.k (.bl false)))
 .nil) .nil)
 (.cons (.ite (.and (.op .lt (.var 2) (.k (.int (5)))) (.op .eq (.var 4) (.mk (x.c c_Kind) (.cons false (.op .add (.var 2) (.k (.int (1)))) (.cons false (.var 3) .nil))))) (.cons (.ret (.k (.bl false)))
 .nil) .nil)
 (.cons (.set 5 false (.comp (.var 8) (.one 8) (.e (.call (x.f n_l_parts) (.cons false (.lrange (.var 2)) .nil))) (.yes (.op .nmem (.var 8) (.var 3))) [8]))
 (.cons (.ite (.and (.op .ne (.var 5) (.lst .nil)) (.op .eq (.var 4) (.mk (x.c c_Kind) (.cons false (.var 2) (.cons false (.op .add (.var 3) (.tup (.cons false (.sub (.var 5) (.k (.int (0)))) .nil))) .nil))))) (.cons (.ret (.k (.bl false)))
 .nil) .nil)
 (.cons (.for_ (.one 6) (.e (.lst (.cons false (.k .non) (.cons false (.k (.int (0))) (.cons false (.k (.int (6))) (.cons false (.k (.str [49])) (.cons false (.k (.bl true)) (.cons false (.tup (.cons false (.k (.int (1))) .nil)) .nil)))))))) (.cons (.ite (.op .ne (.call (x.f n_l_told) (.cons false (.var 6) (.cons false (.k .non) .nil))) (.lst (.cons false (.k (.str [116, 104, 105, 110, 103, 115])) .nil))) (.cons (.ret (.k (.bl false)))
 .nil) .nil)
 .nil))
 (.cons (.for_ (.one 6) (.e (.lst (.cons false (.k .non) (.cons false (.lst (.cons false (.tup .nil) .nil)) (.cons false (.tup .nil) (.cons false (.k (.int (3))) (.cons false (.slice (.var 3) .no (.yes (.k (.int (0))))) (.cons false (.bi .tuple (.cons false (.comp (.var 8) (.one 8) (.e (.var 3)) (.yes (.op .ne (.var 8) (.tup .nil))) [8]) .nil)) .nil)))))))) (.cons (.ite (.op .ne (.call (x.f n_l_told) (.cons false (.var 2) (.cons false (.var 6) .nil))) (.lst (.cons false (.k .non) .nil))) (.cons (.ret (.k (.bl false)))
 .nil) .nil)
 .nil))
 (.cons (.set 7 false (.call (x.f n_l_pick) (.cons false (.var 1) (.cons false (.lst (.cons false (.k .non) (.cons false (.k (.int (0))) (.cons false (.lst (.cons false (.k (.int (0))) .nil)) (.cons false (.tup (.cons false (.var 2) .nil)) (.cons false (.tup (.cons false (.neg (.k (.int (1)))) .nil)) (.cons false (.tup (.cons false (.k (.int (0))) (.cons false (.k (.int (0))) .nil))) (.cons false (.tup (.cons false (.k (.str [48])) .nil)) (.cons false (.tup (.cons false (.k (.bl true)) .nil)) (.cons false (.tup (.cons false (.k .non) .nil)) (.cons false (.sub (.var 3) (.k (.int (0)))) (.cons false (.sub (.var 3) (.neg (.k (.int (1))))) (.cons false (.k (.str [108, 111, 116])) (.cons false (.dnew .nil) .nil)))))))))))))) .nil))))
 (.cons (.ite (.or (.op .ne (.call (x.f n_l_told) (.cons false (.var 2) (.cons false (.op .add (.var 3) (.tup (.cons false (.var 7) (.cons false (.k .non) .nil)))) .nil))) (.lst (.cons false (.bi .len (.cons false (.var 3) .nil)) .nil))) (.op .ne (.call (x.f n_l_told) (.cons false (.var 2) (.cons false (.tup (.cons false (.tup .nil) (.cons false (.tup .nil) (.cons false (.k .non) .nil)))) .nil))) (.lst (.cons false (.k (.int (1))) .nil)))) (.cons (.ret (.k (.bl false)))
 .nil) .nil)
 (.cons (.ite (.and (.op .gt (.var 2) (.k (.int (1)))) (.op .ne (.call (x.f n_l_told) (.cons false (.var 2) (.cons false (.tup (.cons false (.tup (.cons false (.k (.int (1))) (.cons false (.k (.int (0))) .nil))) (.cons false (.tup .nil) .nil))) .nil))) (.lst (.cons false (.k (.int (0))) .nil)))) (.cons (.ret (.k (.bl false)))
 .nil) .nil)
 (.cons (.ret (.op .eq (.call (x.f n_l_told) (.cons false (.var 2) (.cons false (.tup (.cons false (.k .non) .nil)) .nil))) (.lst (.cons false (.k (.int (0))) .nil))))
 .nil)))))))))))))))
def d_law_k01 (x : Ix) : Fd := ⟨1, 9, b_law_k01 x⟩
-- law_k01 0:script 1:d 2:things 3:lots_here 4:kind 5:missing 6:value 7:bad 8:lot
def b_l_added (x : Ix) : Ss := (.cons (.ret (.comp (.var 3) (.one 3) (.range1 (.var 0)) (.yes (.and (.op .nmem (.var 3) (.var 2)) (.op .mem (.call (x.f n_l_with) (.cons false (.var 2) (.cons false (.var 3) .nil))) (.var 1)))) [3]))
 .nil)
def d_l_added (x : Ix) : Fd := ⟨3, 4, b_l_added x⟩
-- l_added 0:things 1:lots_here 2:lot 3:thing
def b_l_full (x : Ix) : Ss := (.cons (.ret (.comp (.var 2) (.one 2) (.e (.bi .sorted (.cons false (.var 1) .nil))) (.yes (.op .eq (.call (x.f n_l_added) (.cons false (.var 0) (.cons false (.var 1) (.cons false (.var 2) .nil)))) (.lst .nil))) [2]))
 .nil)
def d_l_full (x : Ix) : Fd := ⟨2, 3, b_l_full x⟩
-- l_full 0:things 1:lots_here 2:lot
def b_l_taken (x : Ix) : Ss := (.cons (.par 3 false 4 false (.tup .nil) (.tup .nil))
 (.cons (.for_ (.one 5) (.range1 (.var 0)) (.cons (.set 6 false (.call (x.f n_l_added) (.cons false (.var 0) (.cons false (.var 1) (.cons false (.var 3) .nil)))))
 (.cons (.ite (.op .ne (.var 6) (.lst .nil)) (.cons (.set 7 false (.bi .max (.cons false (.comp (.sub (.var 2) (.var 8)) (.one 8) (.e (.var 6)) .no [8]) .nil)))
 (.cons (.set 8 false (.sub (.comp (.var 9) (.one 9) (.e (.var 6)) (.yes (.op .eq (.sub (.var 2) (.var 9)) (.var 7))) [9]) (.k (.int (0)))))
 (.cons (.par 3 false 4 false (.call (x.f n_l_with) (.cons false (.var 3) (.cons false (.var 8) .nil))) (.op .add (.var 4) (.tup (.cons false (.var 8) .nil))))
 .nil))) .nil)
 .nil)))
 (.cons (.ret (.var 4))
 .nil)))
def d_l_taken (x : Ix) : Fd := ⟨3, 10, b_l_taken x⟩
-- l_taken 0:things 1:lots_here 2:weights_here 3:lot 4:row 5:lap 6:some 7:most 8:thing 9:one
def b_l_sum (x : Ix) : Ss := (.cons (.ret (.bi .sum (.cons false (.comp (.sub (.var 1) (.var 2)) (.one 2) (.e (.var 0)) .no [2]) .nil)))
 .nil)
def d_l_sum (x : Ix) : Fd := ⟨2, 3, b_l_sum x⟩
-- l_sum 0:lot 1:weights_here 2:thing
def b_l_least (x : Ix) : Ss := (.cons (.ret (.bi .min (.cons false (.op .add (.lst (.cons false (.k (.int (100))) .nil)) (.comp (.sub (.var 1) (.var 2)) (.one 2) (.e (.var 0)) .no [2])) .nil)))
 .nil)
def d_l_least (x : Ix) : Fd := ⟨2, 3, b_l_least x⟩
-- l_least 0:lot 1:weights_here 2:thing
def b_l_weights (x : Ix) : Ss := (.cons (.ret (.bi .tuple (.cons false (.comp (.call (x.f n_l_pick) (.cons false (.var 0) (.cons false (.lst (.cons false (.k (.int (0))) (.cons false (.k (.int (1))) (.cons false (.k (.int (1))) (.cons false (.k (.int (2))) (.cons false (.neg (.k (.int (1)))) (.cons false (.k (.int (99))) (.cons false (.neg (.k (.int (99)))) (.cons false (.op .sub (.call (x.f n_l_below) (.cons false (.var 0) (.cons false (.k (.int (40))) .nil))) (.k (.int (20)))) .nil))))))))) .nil))) (.one 2) (.range1 (.var 1)) .no [2]) .nil)))
 .nil)
def d_l_weights (x : Ix) : Fd := ⟨2, 3, b_l_weights x⟩
-- l_weights 0:d 1:things 2:k
def b_l_built (x : Ix) : Ss := (.cons (.set 2 true (.lst (.cons false (.tup .nil) .nil)))
 (.cons (.for_ (.one 3) (.range2 (.k (.int (1))) (.op .add (.var 0) (.k (.int (1))))) (.cons (.for_ (.one 4) (.e (.bi .sorted (.cons false (.var 1) .nil))) (.cons (.set 5 false (.comp (.bi .tuple (.cons false (.comp (.var 7) (.one 7) (.e (.var 4)) (.yes (.op .ne (.var 7) (.var 6))) [7]) .nil)) (.one 6) (.e (.var 4)) .no [6]))
 (.cons (.ite (.and (.op .eq (.bi .len (.cons false (.var 4) .nil)) (.var 3)) (.op .ne (.comp (.var 7) (.one 7) (.e (.var 5)) (.yes (.op .mem (.var 7) (.var 2))) [7]) (.lst .nil))) (.cons (.ex (.app (.var 2) (.var 4)))
 .nil) .nil)
 .nil)))
 .nil))
 (.cons (.ret (.bi .sorted (.cons false (.var 2) .nil)))
 .nil)))
def d_l_built (x : Ix) : Fd := ⟨2, 8, b_l_built x⟩
-- l_built 0:things 1:lots_here 2:found 3:size 4:lot 5:smaller 6:thing 7:one
def b_l_refused (x : Ix) : Ss := (.cons (.set 2 false (.k (.bl false)))
 (.cons (.try_ (.cons (.ex (.call (x.f n_adding) (.cons false (.var 0) (.cons false (.var 1) .nil))))
 .nil) [⟨(x.c c_BadLot), none, (.set 2 (.k (.bl true)))⟩])
 (.cons (.ret (.var 2))
 .nil)))
def d_l_refused (x : Ix) : Fd := ⟨2, 3, b_l_refused x⟩
-- l_refused 0:kind 1:lot 2:found
def b_law_k02 (x : Ix) : Ss := (.cons (.set 1 true (.call (x.f n_l_random) (.cons false (.var 0) (.cons false (.k (.int (1802))) .nil))))
 (.cons (.for_ (.one 2) (.range1 (.k (.int (3)))) (.cons (.set 3 false (.op .add (.k (.int (1))) (.call (x.f n_l_below) (.cons false (.var 1) (.cons false (.k (.int (5))) .nil)))))
 (.cons (.set 4 false (.call (x.f n_l_lots) (.cons false (.var 1) (.cons false (.var 3) .nil))))
 (.cons (.set 5 false (.mk (x.c c_Kind) (.cons false (.var 3) (.cons false (.var 4) .nil))))
 (.cons (.for_ (.one 6) (.e (.var 4)) (.cons (.ite (.not (.call (x.f n_l_equal) (.cons false (.call (x.f n_adding) (.cons false (.var 5) (.cons false (.var 6) .nil))) (.cons false (.call (x.f n_l_added) (.cons false (.var 3) (.cons false (.var 4) (.cons false (.var 6) .nil)))) .nil)))) (.cons (.ret (.k (.bl false)))
 .nil) .nil)
 .nil))
 (.cons (.ite (.or (.not (.call (x.f n_l_equal) (.cons false (.call (x.f n_full) (.cons false (.var 5) .nil)) (.cons false (.call (x.f n_l_full) (.cons false (.var 3) (.cons false (.var 4) .nil))) .nil)))) (.not (.call (x.f n_l_equal) (.cons false (.call (x.f n_built) (.cons false (.var 5) .nil)) (.cons false (.call (x.f n_l_built) (.cons false (.var 3) (.cons false (.var 4) .nil))) .nil))))) (.cons (.ret (.k (.bl false)))
 .nil) .nil)
 (.cons (.set 7 false (.comp (.var 6) (.one 6) (.e (.call (x.f n_l_parts) (.cons false (.lrange (.var 3)) .nil))) (.yes (.op .nmem (.var 6) (.var 4))) [6]))
 (.cons (.for_ (.one 8) (.e (.op .add (.lst (.cons false (.k .non) (.cons false (.k (.int (0))) (.cons false (.lst (.cons false (.k (.int (0))) .nil)) (.cons false (.tup (.cons false (.var 3) .nil)) (.cons false (.tup (.cons false (.k (.int (0))) (.cons false (.k (.int (0))) .nil))) (.cons false (.k (.str [108, 111, 116])) (.cons false (.tup (.cons false (.k (.bl true)) .nil)) (.cons false (.dnew .nil) (.cons false (.lst (.cons false (.tup .nil) .nil)) .nil)))))))))) (.slice (.var 7) .no (.yes (.k (.int (2))))))) (.cons (.ite (.not (.call (x.f n_l_refused) (.cons false (.var 5) (.cons false (.var 8) .nil)))) (.cons (.ret (.k (.bl false)))
 .nil) .nil)
 .nil))
 .nil))))))))
 (.cons (.ret (.k (.bl true)))
 .nil)))
def d_law_k02 (x : Ix) : Fd := ⟨1, 9, b_law_k02 x⟩
-- law_k02 0:script 1:d 2:turn 3:things 4:lots_here 5:kind 6:lot 7:missing 8:value
def b_l_refused_k03 (x : Ix) : Ss := (.cons (.set 2 false (.k (.int (0))))
 (.cons (.try_ (.cons (.ex (.call (x.f n_taken) (.cons false (.var 0) (.cons false (.var 1) .nil))))
 .nil) [⟨(x.c c_BadWeights), none, (.set 2 (.inc 2))⟩])
 (.cons (.try_ (.cons (.ex (.call (x.f n_heaviest) (.cons false (.var 0) (.cons false (.var 1) .nil))))
 .nil) [⟨(x.c c_BadWeights), none, (.set 2 (.inc 2))⟩])
 (.cons (.try_ (.cons (.ex (.call (x.f n_richest) (.cons false (.var 0) (.cons false (.var 1) .nil))))
 .nil) [⟨(x.c c_BadWeights), none, (.set 2 (.inc 2))⟩])
 (.cons (.ret (.var 2))
 .nil)))))
def d_l_refused_k03 (x : Ix) : Fd := ⟨2, 3, b_l_refused_k03 x⟩
-- l_refused_k03 0:kind 1:weights_here 2:found
def b_law_k03 (x : Ix) : Ss := (.cons (.set 1 true (.call (x.f n_l_random) (.cons false (.var 0) (.cons false (.k (.int (1803))) .nil))))
 (.cons (.set 2 false (.op .add (.k (.int (1))) (.call (x.f n_l_below) (.cons false (.var 1) (.cons false (.k (.int (5))) .nil)))))
 (.cons (.set 3 false (.call (x.f n_l_lots) (.cons false (.var 1) (.cons false (.var 2) .nil))))
 (.cons (.par 4 false 5 false (.mk (x.c c_Kind) (.cons false (.var 2) (.cons false (.var 3) .nil))) (.call (x.f n_l_full) (.cons false (.var 2) (.cons false (.var 3) .nil))))
 (.cons (.for_ (.one 6) (.range1 (.k (.int (6)))) (.cons (.set 7 false (.call (x.f n_l_weights) (.cons false (.var 1) (.cons false (.var 2) .nil))))
 (.cons (.ite (.not (.call (x.f n_l_equal) (.cons false (.call (x.f n_taken) (.cons false (.var 4) (.cons false (.var 7) .nil))) (.cons false (.call (x.f n_l_taken) (.cons false (.var 2) (.cons false (.var 3) (.cons false (.var 7) .nil)))) .nil)))) (.cons (.ret (.k (.bl false)))
 .nil) .nil)
 (.cons (.set 8 false (.bi .max (.cons false (.comp (.call (x.f n_l_sum) (.cons false (.var 11) (.cons false (.var 7) .nil))) (.one 11) (.e (.var 5)) .no [11]) .nil)))
 (.cons (.ite (.not (.call (x.f n_l_equal) (.cons false (.call (x.f n_heaviest) (.cons false (.var 4) (.cons false (.var 7) .nil))) (.cons false (.tup (.cons false (.var 8) (.cons false (.comp (.var 11) (.one 11) (.e (.var 5)) (.yes (.op .eq (.call (x.f n_l_sum) (.cons false (.var 11) (.cons false (.var 7) .nil))) (.var 8))) [11]) .nil))) .nil)))) (.cons (.ret (.k (.bl false)))
 .nil) .nil)
 (.cons (.set 8 false (.bi .max (.cons false (.comp (.call (x.f n_l_least) (.cons false (.var 11) (.cons false (.var 7) .nil))) (.one 11) (.e (.var 5)) .no [11]) .nil)))
 (.cons (.ite (.not (.call (x.f n_l_equal) (.cons false (.call (x.f n_richest) (.cons false (.var 4) (.cons false (.var 7) .nil))) (.cons false (.tup (.cons false (.var 8) (.cons false (.comp (.var 11) (.one 11) (.e (.var 5)) (.yes (.op .eq (.call (x.f n_l_least) (.cons false (.var 11) (.cons false (.var 7) .nil))) (.var 8))) [11]) .nil))) .nil)))) (.cons (.ret (.k (.bl false)))
 .nil) .nil)
 .nil)))))))
 (.cons (.set 9 false (.op .mul (.tup (.cons false (.k (.int (1))) .nil)) (.var 2)))
 (.cons (.set 10 false (.lst (.cons false (.k .non) (.cons false (.bi .list (.cons false (.var 9) .nil)) (.cons false (.slice (.var 9) (.yes (.k (.int (1)))) .no) (.cons false (.op .add (.var 9) (.tup (.cons false (.k (.int (1))) .nil))) (.cons false (.op .add (.tup (.cons false (.k (.int (100))) .nil)) (.slice (.var 9) (.yes (.k (.int (1)))) .no)) (.cons false (.op .add (.tup (.cons false (.neg (.k (.int (100)))) .nil)) (.slice (.var 9) (.yes (.k (.int (1)))) .no)) (.cons false (.op .add (.tup (.cons false (.k (.bl true)) .nil)) (.slice (.var 9) (.yes (.k (.int (1)))) .no)) (.cons false (.k (.int (3))) .nil))))))))))
 (.cons (.ret (.op .eq (.comp (.var 12) (.one 12) (.e (.op .add (.var 10) (.lst (.cons false (.op .add (.tup (.cons false (.k (.str [49])) .nil)) (.slice (.var 9) (.yes (.k (.int (1)))) .no)) (.cons false (.dnew .nil) (.cons false (.k (.str [119, 101, 105, 103, 104, 116, 115])) .nil)))))) (.yes (.op .ne (.call (x.f n_l_refused_k03) (.cons false (.var 4) (.cons false (.var 12) .nil))) (.k (.int (3))))) [12]) (.lst .nil)))
 .nil))))))))
def d_law_k03 (x : Ix) : Fd := ⟨1, 13, b_law_k03 x⟩
-- law_k03 0:script 1:d 2:things 3:lots_here 4:kind 5:some 6:turn 7:weights_here 8:most 9:good 10:odd 11:lot 12:value
def b_l_orders (x : Ix) : Ss := (.cons (.set 1 false (.lst (.cons false (.tup .nil) .nil)))
 (.cons (.for_ (.one 2) (.range1 (.var 0)) (.cons (.set 3 false (.lst .nil))
 (.cons (.for_ (.one 4) (.e (.var 1)) (.cons (.set 3 false (.op .add (.var 3) (.comp (.op .add (.var 4) (.tup (.cons false (.var 5) .nil))) (.one 5) (.range1 (.var 0)) (.yes (.op .nmem (.var 5) (.var 4))) [5])))
 .nil))
 (.cons (.set 1 false (.var 3))
 .nil))))
 (.cons (.ret (.var 1))
 .nil)))
def d_l_orders (x : Ix) : Fd := ⟨1, 6, b_l_orders x⟩
-- l_orders 0:things 1:found 2:lap 3:later 4:row 5:one
def b_l_falling (x : Ix) : Ss := (.cons (.ret (.bi .tuple (.cons false (.comp (.op .sub (.bi .len (.cons false (.var 0) .nil)) (.bi .index (.cons false (.var 0) (.cons false (.var 1) .nil)))) (.one 1) (.range1 (.bi .len (.cons false (.var 0) .nil))) .no [1]) .nil)))
 .nil)
def d_l_falling (x : Ix) : Fd := ⟨1, 2, b_l_falling x⟩
-- l_falling 0:order 1:thing
def b_l_families (x : Ix) : Ss := (.cons (.set 1 true (.lst .nil))
 (.cons (.for_ (.one 2) (.e (.call (x.f n_l_orders) (.cons false (.var 0) .nil))) (.cons (.set 3 false (.call (x.f n_l_falling) (.cons false (.var 2) .nil)))
 (.cons (.for_ (.one 4) (.range1 (.op .add (.var 0) (.k (.int (1))))) (.cons (.ex (.app (.var 1) (.bi .tuple (.cons false (.comp (.op .add (.sub (.var 3) (.var 5)) (.ite (.op .mem (.var 5) (.slice (.var 2) .no (.yes (.var 4)))) (.k (.int (20))) (.k (.int (0))))) (.one 5) (.range1 (.var 0)) .no [5]) .nil))))
 .nil))
 (.cons (.ex (.app (.var 1) (.bi .tuple (.cons false (.comp (.op .sub (.var 6) (.k (.int (20)))) (.one 6) (.e (.var 3)) .no [6]) .nil))))
 .nil))))
 (.cons (.ret (.var 1))
 .nil)))
def d_l_families (x : Ix) : Fd := ⟨1, 7, b_l_families x⟩
-- l_families 0:things 1:found 2:order 3:base 4:many 5:k 6:one
def b_l_always (x : Ix) : Ss := (.cons (.set 2 false (.call (x.f n_l_full) (.cons false (.var 0) (.cons false (.var 1) .nil))))
 (.cons (.for_ (.one 3) (.e (.call (x.f n_l_families) (.cons false (.var 0) .nil))) (.cons (.set 4 false (.call (x.f n_l_sum) (.cons false (.call (x.f n_l_taken) (.cons false (.var 0) (.cons false (.var 1) (.cons false (.var 3) .nil)))) (.cons false (.var 3) .nil))))
 (.cons (.ite (.op .ne (.comp (.var 5) (.one 5) (.e (.var 2)) (.yes (.op .gt (.call (x.f n_l_sum) (.cons false (.var 5) (.cons false (.var 3) .nil))) (.var 4))) [5]) (.lst .nil)) (.cons (.ret (.k (.bl false)))
 .nil) .nil)
 .nil)))
 (.cons (.ret (.k (.bl true)))
 .nil)))
def d_l_always (x : Ix) : Fd := ⟨2, 6, b_l_always x⟩
-- l_always 0:things 1:lots_here 2:some 3:weights_here 4:told 5:lot
def b_law_k04 (x : Ix) : Ss := (.cons (.set 1 true (.call (x.f n_l_random) (.cons false (.var 0) (.cons false (.k (.int (1804))) .nil))))
 (.cons (.for_ (.one 2) (.range1 (.k (.int (2)))) (.cons (.set 3 false (.call (x.f n_l_pick) (.cons false (.var 1) (.cons false (.lst (.cons false (.k (.int (1))) (.cons false (.k (.int (2))) (.cons false (.k (.int (3))) (.cons false (.k (.int (3))) (.cons false (.k (.int (4))) (.cons false (.k (.int (4))) (.cons false (.k (.int (5))) .nil)))))))) .nil))))
 (.cons (.set 4 false (.call (x.f n_l_lots) (.cons false (.var 1) (.cons false (.var 3) .nil))))
 (.cons (.par3 5 false 6 false 7 false (.mk (x.c c_Kind) (.cons false (.var 3) (.cons false (.var 4) .nil))) (.call (x.f n_l_full) (.cons false (.var 3) (.cons false (.var 4) .nil))) (.call (x.f n_l_always) (.cons false (.var 3) (.cons false (.var 4) .nil))))
 (.cons (.ite (.or (.not (.call (x.f n_l_equal) (.cons false (.call (x.f n_always) (.cons false (.var 5) .nil)) (.cons false (.var 7) .nil)))) (.op .ne (.isN (.call (x.f n_fooling) (.cons false (.var 5) .nil))) (.var 7))) (.cons (.ret (.k (.bl false)))
 .nil) .nil)
 (.cons (.ite (.var 7) (.cons (.for_ (.one 8) (.range1 (.k (.int (5)))) (.cons (.set 9 false (.call (x.f n_l_weights) (.cons false (.var 1) (.cons false (.var 3) .nil))))
 (.cons (.set 10 false (.call (x.f n_l_sum) (.cons false (.call (x.f n_l_taken) (.cons false (.var 3) (.cons false (.var 4) (.cons false (.var 9) .nil)))) (.cons false (.var 9) .nil))))
 (.cons (.ite (.op .ne (.var 10) (.bi .max (.cons false (.comp (.call (x.f n_l_sum) (.cons false (.var 11) (.cons false (.var 9) .nil))) (.one 11) (.e (.var 6)) .no [11]) .nil))) (.cons (.ret (.k (.bl false)))
 .nil) .nil)
 .nil))))
 .nil) (.cons (.unp [9, 11, 12] (.call (x.f n_fooling) (.cons false (.var 5) .nil)))
 (.cons (.ite (.or (.not (.bi (.isT .tuple x.obs) (.cons false (.var 9) .nil))) (.or (.op .ne (.bi .len (.cons false (.var 9) .nil)) (.var 3)) (.op .nmem (.var 12) (.var 6)))) (.cons (.ret (.k (.bl false)))
 .nil) .nil)
 (.cons (.ite (.op .ne (.comp (.var 13) (.one 13) (.e (.var 9)) (.yes (.not (.chain .le .le (.neg (.k (.int (99)))) (.var 13) (.k (.int (99)))))) [13]) (.lst .nil)) (.cons (.ret (.k (.bl false)))
 .nil) .nil)
 (.cons (.ite (.not (.call (x.f n_l_equal) (.cons false (.var 11) (.cons false (.bi .tuple (.cons false (.bi .sorted (.cons false (.call (x.f n_l_taken) (.cons false (.var 3) (.cons false (.var 4) (.cons false (.var 9) .nil)))) .nil)) .nil)) .nil)))) (.cons (.ret (.k (.bl false)))
 .nil) .nil)
 (.cons (.ite (.op .le (.call (x.f n_l_sum) (.cons false (.var 12) (.cons false (.var 9) .nil))) (.call (x.f n_l_sum) (.cons false (.var 11) (.cons false (.var 9) .nil)))) (.cons (.ret (.k (.bl false)))
 .nil) .nil)
 .nil))))))
 .nil))))))
 (.cons (.ret (.k (.bl true)))
 .nil)))
def d_law_k04 (x : Ix) : Fd := ⟨1, 14, b_law_k04 x⟩
-- law_k04 0:script 1:d 2:turn 3:things 4:lots_here 5:kind 6:some 7:due 8:lap 9:weights_here 10:told 11:lot 12:better 13:one
def b_law_k05 (x : Ix) : Ss := (.cons (.set 1 true (.call (x.f n_l_random) (.cons false (.var 0) (.cons false (.k (.int (1805))) .nil))))
 (.cons (.for_ (.one 2) (.range1 (.k (.int (3)))) (.cons (.set 3 false (.call (x.f n_l_pick) (.cons false (.var 1) (.cons false (.lst (.cons false (.k (.int (1))) (.cons false (.k (.int (2))) (.cons false (.k (.int (3))) (.cons false (.k (.int (3))) (.cons false (.k (.int (4))) (.cons false (.k (.int (4))) (.cons false (.k (.int (5))) .nil)))))))) .nil))))
 (.cons (.set 4 false (.call (x.f n_l_lots) (.cons false (.var 1) (.cons false (.var 3) .nil))))
 (.cons (.par3 5 false 6 false 7 false (.mk (x.c c_Kind) (.cons false (.var 3) (.cons false (.var 4) .nil))) (.call (x.f n_l_full) (.cons false (.var 3) (.cons false (.var 4) .nil))) (.k (.bl true)))
 (.cons (.for_ (.one 8) (.e (.call (x.f n_l_orders) (.cons false (.var 3) .nil))) (.cons (.set 9 false (.call (x.f n_l_falling) (.cons false (.var 8) .nil)))
 (.cons (.set 10 false (.call (x.f n_l_taken) (.cons false (.var 3) (.cons false (.var 4) (.cons false (.var 9) .nil)))))
 (.cons (.set 11 false (.call (x.f n_l_least) (.cons false (.var 10) (.cons false (.var 9) .nil))))
 (.cons (.set 12 false (.comp (.var 15) (.one 15) (.e (.var 6)) (.yes (.op .gt (.call (x.f n_l_least) (.cons false (.var 15) (.cons false (.var 9) .nil))) (.var 11))) [15]))
 (.cons (.set 7 false (.and (.var 7) (.op .eq (.var 12) (.lst .nil))))
 .nil))))))
 (.cons (.ite (.not (.call (x.f n_l_equal) (.cons false (.call (x.f n_always_least) (.cons false (.var 5) .nil)) (.cons false (.var 7) .nil)))) (.cons (.ret (.k (.bl false)))
 .nil) .nil)
 (.cons (.ite (.op .ne (.isN (.call (x.f n_fooling_least) (.cons false (.var 5) .nil))) (.var 7)) (.cons (.ret (.k (.bl false)))
 .nil) .nil)
 (.cons (.ite (.var 7) (.cons (.for_ (.one 13) (.range1 (.k (.int (5)))) (.cons (.set 9 false (.call (x.f n_l_weights) (.cons false (.var 1) (.cons false (.var 3) .nil))))
 (.cons (.set 10 false (.call (x.f n_l_taken) (.cons false (.var 3) (.cons false (.var 4) (.cons false (.var 9) .nil)))))
 (.cons (.set 14 false (.bi .max (.cons false (.comp (.call (x.f n_l_least) (.cons false (.var 15) (.cons false (.var 9) .nil))) (.one 15) (.e (.var 6)) .no [15]) .nil)))
 (.cons (.ite (.op .ne (.call (x.f n_l_least) (.cons false (.var 10) (.cons false (.var 9) .nil))) (.var 14)) (.cons (.ret (.k (.bl false)))
 .nil) .nil)
 .nil)))))
 .nil) (.cons (.unp [9, 15, 12] (.call (x.f n_fooling_least) (.cons false (.var 5) .nil)))
 (.cons (.set 10 false (.call (x.f n_l_taken) (.cons false (.var 3) (.cons false (.var 4) (.cons false (.var 9) .nil)))))
 (.cons (.ite (.or (.op .nmem (.var 12) (.var 6)) (.not (.call (x.f n_l_equal) (.cons false (.var 15) (.cons false (.bi .tuple (.cons false (.bi .sorted (.cons false (.var 10) .nil)) .nil)) .nil))))) (.cons (.ret (.k (.bl false)))
 .nil) .nil)
 (.cons (.ite (.or (.op .ne (.comp (.var 16) (.one 16) (.e (.var 9)) (.yes (.not (.chain .le .le (.neg (.k (.int (99)))) (.var 16) (.k (.int (99)))))) [16]) (.lst .nil)) (.op .ne (.bi .len (.cons false (.var 9) .nil)) (.var 3))) (.cons (.ret (.k (.bl false)))
 .nil) .nil)
 (.cons (.ite (.op .le (.call (x.f n_l_least) (.cons false (.var 12) (.cons false (.var 9) .nil))) (.call (x.f n_l_least) (.cons false (.var 15) (.cons false (.var 9) .nil)))) (.cons (.ret (.k (.bl false)))
 .nil) .nil)
 .nil))))))
 .nil))))))))
 (.cons (.ret (.k (.bl true)))
 .nil)))
def d_law_k05 (x : Ix) : Fd := ⟨1, 17, b_law_k05 x⟩
-- law_k05 0:script 1:d 2:turn 3:things 4:lots_here 5:kind 6:some 7:due 8:order 9:weights_here 10:row 11:told 12:better 13:lap 14:most 15:lot 16:one
def b_l_within (x : Ix) : Ss := (.cons (.ret (.op .ne (.comp (.var 2) (.one 2) (.e (.var 0)) (.yes (.op .eq (.comp (.var 3) (.one 3) (.e (.var 1)) (.yes (.op .nmem (.var 3) (.var 2))) [3]) (.lst .nil))) [2]) (.lst .nil)))
 .nil)
def d_l_within (x : Ix) : Fd := ⟨2, 4, b_l_within x⟩
-- l_within 0:lots_here 1:some 2:lot 3:one
def b_l_steps (x : Ix) : Ss := (.cons (.set 1 true (.lst .nil))
 (.cons (.for_ (.one 2) (.e (.var 0)) (.cons (.set 3 false (.comp (.bi .tuple (.cons false (.comp (.var 5) (.one 5) (.e (.var 2)) (.yes (.op .ne (.var 5) (.var 4))) [5]) .nil)) (.one 4) (.e (.var 2)) .no [4]))
 (.cons (.ite (.and (.op .ne (.var 2) (.tup .nil)) (.op .eq (.comp (.var 5) (.one 5) (.e (.var 3)) (.yes (.op .mem (.var 5) (.var 0))) [5]) (.lst .nil))) (.cons (.ex (.app (.var 1) (.var 2)))
 .nil) .nil)
 .nil)))
 (.cons (.ret (.var 1))
 .nil)))
def d_l_steps (x : Ix) : Fd := ⟨1, 6, b_l_steps x⟩
-- l_steps 0:lots_here 1:found 2:lot 3:smaller 4:thing 5:one
def b_l_extends (x : Ix) : Ss := (.cons (.set 2 true (.lst .nil))
 (.cons (.for_ (.one 3) (.e (.var 1)) (.cons (.for_ (.one 4) (.e (.call (x.f n_l_full) (.cons false (.var 0) (.cons false (.var 1) .nil)))) (.cons (.set 5 false (.comp (.var 6) (.one 6) (.e (.call (x.f n_l_added) (.cons false (.var 0) (.cons false (.var 1) (.cons false (.var 3) .nil))))) (.yes (.op .mem (.var 6) (.var 4))) [6]))
 (.cons (.ite (.and (.op .ne (.var 3) (.var 4)) (.and (.op .eq (.comp (.var 7) (.one 7) (.e (.var 3)) (.yes (.op .nmem (.var 7) (.var 4))) [7]) (.lst .nil)) (.op .eq (.var 5) (.lst .nil)))) (.cons (.ex (.app (.var 2) (.tup (.cons false (.var 3) (.cons false (.var 4) .nil)))))
 .nil) .nil)
 .nil)))
 .nil))
 (.cons (.ret (.var 2))
 .nil)))
def d_l_extends (x : Ix) : Fd := ⟨2, 8, b_l_extends x⟩
-- l_extends 0:things 1:lots_here 2:found 3:lot 4:other 5:shared 6:thing 7:one
def b_l_agrees (x : Ix) : Ss := (.cons (.set 2 false (.lst .nil))
 (.cons (.for_ (.one 3) (.e (.var 1)) (.cons (.set 4 false (.call (x.f n_l_added) (.cons false (.var 0) (.cons false (.var 1) (.cons false (.var 3) .nil)))))
 (.cons (.for_ (.one 5) (.e (.call (x.f n_l_parts) (.cons false (.comp (.var 8) (.one 8) (.range1 (.var 0)) (.yes (.and (.op .nmem (.var 8) (.var 3)) (.op .nmem (.var 8) (.var 4)))) [8]) .nil))) (.cons (.set 6 false (.comp (.var 8) (.one 8) (.e (.var 4)) (.yes (.call (x.f n_l_within) (.cons false (.var 1) (.cons false (.op .add (.op .add (.var 3) (.var 5)) (.tup (.cons false (.var 8) .nil))) .nil)))) [8]))
 (.cons (.for_ (.one 7) (.e (.var 6)) (.cons (.set 2 false (.op .add (.var 2) (.comp (.tup (.cons false (.var 3) (.cons false (.var 7) (.cons false (.var 9) (.cons false (.var 5) .nil))))) (.one 9) (.e (.var 4)) (.yes (.op .nmem (.var 9) (.var 6))) [9])))
 .nil))
 .nil)))
 .nil)))
 (.cons (.ret (.var 2))
 .nil)))
def d_l_agrees (x : Ix) : Fd := ⟨2, 10, b_l_agrees x⟩
-- l_agrees 0:things 1:lots_here 2:found 3:lot 4:some 5:rest 6:good 7:one 8:thing 9:other
def b_l_spreads (x : Ix) : Ss := (.cons (.par 2 true 3 false (.lst .nil) (.comp (.var 4) (.one 4) (.e (.call (x.f n_l_parts) (.cons false (.lrange (.var 0)) .nil))) (.yes (.call (x.f n_l_within) (.cons false (.var 1) (.cons false (.var 4) .nil)))) [4]))
 (.cons (.for_ (.one 4) (.e (.var 3)) (.cons (.for_ (.one 5) (.e (.var 3)) (.cons (.set 6 false (.comp (.var 7) (.one 7) (.e (.var 5)) (.yes (.and (.op .nmem (.var 7) (.var 4)) (.call (x.f n_l_within) (.cons false (.var 1) (.cons false (.op .add (.var 4) (.tup (.cons false (.var 7) .nil))) .nil))))) [7]))
 (.cons (.ite (.and (.op .lt (.bi .len (.cons false (.var 4) .nil)) (.bi .len (.cons false (.var 5) .nil))) (.op .eq (.var 6) (.lst .nil))) (.cons (.ex (.app (.var 2) (.tup (.cons false (.var 4) (.cons false (.var 5) .nil)))))
 .nil) .nil)
 .nil)))
 .nil))
 (.cons (.ret (.var 2))
 .nil)))
def d_l_spreads (x : Ix) : Fd := ⟨2, 8, b_l_spreads x⟩
-- l_spreads 0:things 1:lots_here 2:found 3:parts_here 4:some 5:others 6:grown_so 7:one
def b_l_first (x : Ix) : Ss := (.cons (.ret (.ite (.op .ne (.var 0) (.lst .nil)) (.bi .min (.cons false (.var 0) .nil)) (.k .non)))
 .nil)
def d_l_first (x : Ix) : Fd := ⟨1, 1, b_l_first x⟩
-- l_first 0:found
def b_law_k06 (x : Ix) : Ss := (.cons (.set 1 true (.call (x.f n_l_random) (.cons false (.var 0) (.cons false (.k (.int (1806))) .nil))))
 (.cons (.for_ (.one 2) (.range1 (.k (.int (4)))) (.cons (.set 3 false (.call (x.f n_l_pick) (.cons false (.var 1) (.cons false (.lst (.cons false (.k (.int (1))) (.cons false (.k (.int (2))) (.cons false (.k (.int (3))) (.cons false (.k (.int (3))) (.cons false (.k (.int (4))) (.cons false (.k (.int (4))) (.cons false (.k (.int (5))) .nil)))))))) .nil))))
 (.cons (.set 4 false (.call (x.f n_l_lots) (.cons false (.var 1) (.cons false (.var 3) .nil))))
 (.cons (.set 5 false (.mk (x.c c_Kind) (.cons false (.var 3) (.cons false (.var 4) .nil))))
 (.cons (.ite (.not (.call (x.f n_l_equal) (.cons false (.call (x.f n_steps) (.cons false (.var 5) .nil)) (.cons false (.call (x.f n_l_first) (.cons false (.call (x.f n_l_steps) (.cons false (.var 4) .nil)) .nil)) .nil)))) (.cons (.ret (.k (.bl false)))
 .nil) .nil)
 (.cons (.ite (.not (.call (x.f n_l_equal) (.cons false (.call (x.f n_extends) (.cons false (.var 5) .nil)) (.cons false (.call (x.f n_l_first) (.cons false (.call (x.f n_l_extends) (.cons false (.var 3) (.cons false (.var 4) .nil))) .nil)) .nil)))) (.cons (.ret (.k (.bl false)))
 .nil) .nil)
 (.cons (.ite (.not (.call (x.f n_l_equal) (.cons false (.call (x.f n_agrees) (.cons false (.var 5) .nil)) (.cons false (.call (x.f n_l_first) (.cons false (.call (x.f n_l_agrees) (.cons false (.var 3) (.cons false (.var 4) .nil))) .nil)) .nil)))) (.cons (.ret (.k (.bl false)))
 .nil) .nil)
 (.cons (.ite (.not (.call (x.f n_l_equal) (.cons false (.call (x.f n_spreads) (.cons false (.var 5) .nil)) (.cons false (.call (x.f n_l_first) (.cons false (.call (x.f n_l_spreads) (.cons false (.var 3) (.cons false (.var 4) .nil))) .nil)) .nil)))) (.cons (.ret (.k (.bl false)))
 .nil) .nil)
 .nil))))))))
 (.cons (.ret (.k (.bl true)))
 .nil)))
def d_law_k06 (x : Ix) : Fd := ⟨1, 6, b_law_k06 x⟩
-- law_k06 0:script 1:d 2:turn 3:things 4:lots_here 5:kind
def b_l_holds (x : Ix) : Ss := (.cons (.ite (.notN (.call (x.f n_steps) (.cons false (.var 0) .nil))) (.cons (.ret (.k (.bl true)))
 .nil) .nil)
 (.cons (.set 1 false (.and (.isN (.call (x.f n_extends) (.cons false (.var 0) .nil))) (.and (.isN (.call (x.f n_agrees) (.cons false (.var 0) .nil))) (.isN (.call (x.f n_spreads) (.cons false (.var 0) .nil))))))
 (.cons (.ite (.op .ne (.call (x.f n_always) (.cons false (.var 0) .nil)) (.var 1)) (.cons (.ret (.k (.bl false)))
 .nil) .nil)
 (.cons (.ret (.or (.not (.var 1)) (.op .eq (.bi .lenSet (.cons false (.comp (.bi .len (.cons false (.var 2) .nil)) (.one 2) (.e (.call (x.f n_full) (.cons false (.var 0) .nil))) .no [2]) .nil)) (.k (.int (1))))))
 .nil))))
def d_l_holds (x : Ix) : Fd := ⟨1, 3, b_l_holds x⟩
-- l_holds 0:kind 1:good 2:lot
def b_l_closed (x : Ix) : Ss := (.cons (.par 1 false 2 false (.call (x.f n_l_below) (.cons false (.var 0) (.cons false (.k (.int (3))) .nil))) (.call (x.f n_l_parts) (.cons false (.lst (.cons false (.k (.int (0))) (.cons false (.k (.int (1))) (.cons false (.k (.int (2))) (.cons false (.k (.int (3))) .nil))))) .nil)))
 (.cons (.ite (.op .eq (.var 1) (.k (.int (0)))) (.cons (.set 3 false (.op .add (.comp (.var 6) (.one 6) (.e (.var 2)) (.yes (.and (.op .eq (.bi .len (.cons false (.var 6) .nil)) (.k (.int (2)))) (.op .eq (.call (x.f n_l_below) (.cons false (.var 0) (.cons false (.k (.int (2))) .nil))) (.k (.int (0)))))) [6]) (.lst (.cons false (.tup (.cons false (.k (.int (0))) (.cons false (.k (.int (1))) .nil))) .nil))))
 .nil) (.cons (.ite (.op .eq (.var 1) (.k (.int (1)))) (.cons (.set 4 false (.call (x.f n_l_below) (.cons false (.var 0) (.cons false (.k (.int (4))) .nil))))
 (.cons (.set 5 false (.bi .tuple (.cons false (.comp (.var 7) (.one 7) (.range1 (.k (.int (4)))) (.yes (.op .ne (.var 7) (.var 4))) [7]) .nil)))
 (.cons (.set 3 false (.op .add (.lst (.cons false (.var 5) .nil)) (.comp (.call (x.f n_l_with) (.cons false (.tup (.cons false (.var 4) .nil)) (.cons false (.var 7) .nil))) (.one 7) (.e (.var 5)) (.yes (.op .gt (.call (x.f n_l_below) (.cons false (.var 0) (.cons false (.k (.int (5))) .nil))) (.k (.int (0))))) [7])))
 .nil))) (.cons (.set 3 false (.comp (.call (x.f n_l_pick) (.cons false (.var 0) (.cons false (.var 2) .nil))) (.one 8) (.range1 (.op .add (.k (.int (2))) (.call (x.f n_l_below) (.cons false (.var 0) (.cons false (.k (.int (2))) .nil))))) .no [8]))
 .nil))
 .nil))
 (.cons (.ret (.bi .tuple (.cons false (.comp (.var 6) (.one 6) (.e (.var 2)) (.yes (.op .ne (.comp (.var 7) (.one 7) (.e (.var 3)) (.yes (.op .eq (.bi .lenSet (.cons false (.op .add (.var 7) (.var 6)) .nil)) (.bi .len (.cons false (.var 7) .nil)))) [7]) (.lst .nil))) [6]) .nil)))
 .nil)))
def d_l_closed (x : Ix) : Fd := ⟨1, 9, b_l_closed x⟩
-- l_closed 0:d 1:kind 2:every 3:some 4:thing 5:rest 6:lot 7:one 8:k
def b_law_k07 (x : Ix) : Ss := (.cons (.set 1 true (.call (x.f n_l_random) (.cons false (.var 0) (.cons false (.k (.int (1807))) .nil))))
 (.cons (.for_ (.one 2) (.range1 (.k (.int (5)))) (.cons (.ite (.not (.call (x.f n_l_holds) (.cons false (.mk (x.c c_Kind) (.cons false (.k (.int (4))) (.cons false (.call (x.f n_l_closed) (.cons false (.var 1) .nil)) .nil))) .nil))) (.cons (.ret (.k (.bl false)))
 .nil) .nil)
 .nil))
 (.cons (.for_ (.one 2) (.range1 (.k (.int (4)))) (.cons (.set 3 false (.op .add (.k (.int (1))) (.call (x.f n_l_below) (.cons false (.var 1) (.cons false (.k (.int (4))) .nil)))))
 (.cons (.ite (.not (.call (x.f n_l_holds) (.cons false (.mk (x.c c_Kind) (.cons false (.var 3) (.cons false (.call (x.f n_l_lots) (.cons false (.var 1) (.cons false (.var 3) .nil))) .nil))) .nil))) (.cons (.ret (.k (.bl false)))
 .nil) .nil)
 .nil)))
 (.cons (.set 4 false (.lst (.cons false (.tup (.cons false (.k (.int (0))) (.cons false (.k (.int (1))) .nil))) (.cons false (.tup (.cons false (.k (.int (0))) (.cons false (.k (.int (2))) .nil))) (.cons false (.tup (.cons false (.k (.int (0))) (.cons false (.k (.int (3))) .nil))) (.cons false (.tup (.cons false (.k (.int (1))) (.cons false (.k (.int (2))) .nil))) (.cons false (.tup (.cons false (.k (.int (1))) (.cons false (.k (.int (3))) .nil))) (.cons false (.tup (.cons false (.k (.int (2))) (.cons false (.k (.int (3))) .nil))) .nil))))))))
 (.cons (.set 5 false (.lst .nil))
 (.cons (.for_ (.one 6) (.range1 (.op .add (.k (.int (1))) (.call (x.f n_l_below) (.cons false (.var 1) (.cons false (.k (.int (5))) .nil))))) (.cons (.set 7 false (.call (x.f n_l_pick) (.cons false (.var 1) (.cons false (.var 4) .nil))))
 (.cons (.set 5 false (.ite (.op .mem (.var 7) (.var 5)) (.var 5) (.op .add (.var 5) (.lst (.cons false (.var 7) .nil)))))
 .nil)))
 (.cons (.for_ (.one 8) (.e (.lst (.cons false (.call (x.f n_forests) (.cons false (.k (.int (4))) (.cons false (.bi .tuple (.cons false (.var 5) .nil)) .nil))) (.cons false (.call (x.f n_grown) (.cons false (.k (.int (4))) (.cons false (.bi .tuple (.cons false (.var 5) .nil)) (.cons false (.call (x.f n_l_below) (.cons false (.var 1) (.cons false (.k (.int (4))) .nil))) .nil)))) .nil)))) (.cons (.ite (.or (.not (.call (x.f n_always) (.cons false (.var 8) .nil))) (.or (.not (.call (x.f n_l_holds) (.cons false (.var 8) .nil))) (.notN (.call (x.f n_steps) (.cons false (.var 8) .nil))))) (.cons (.ret (.k (.bl false)))
 .nil) .nil)
 .nil))
 (.cons (.ret (.k (.bl true)))
 .nil))))))))
def d_law_k07 (x : Ix) : Fd := ⟨1, 9, b_law_k07 x⟩
-- law_k07 0:script 1:d 2:turn 3:things 4:pairs 5:lines 6:k 7:line 8:kind
def b_l_always_k08 (x : Ix) : Ss := (.cons (.set 2 false (.call (x.f n_l_full) (.cons false (.var 0) (.cons false (.var 1) .nil))))
 (.cons (.for_ (.one 3) (.e (.call (x.f n_l_families) (.cons false (.var 0) .nil))) (.cons (.set 4 false (.call (x.f n_l_sum) (.cons false (.call (x.f n_l_taken) (.cons false (.var 0) (.cons false (.var 1) (.cons false (.var 3) .nil)))) (.cons false (.var 3) .nil))))
 (.cons (.ite (.op .ne (.comp (.var 5) (.one 5) (.e (.var 2)) (.yes (.op .gt (.call (x.f n_l_sum) (.cons false (.var 5) (.cons false (.var 3) .nil))) (.var 4))) [5]) (.lst .nil)) (.cons (.ret (.k (.bl false)))
 .nil) .nil)
 .nil)))
 (.cons (.ret (.k (.bl true)))
 .nil)))
def d_l_always_k08 (x : Ix) : Fd := ⟨2, 6, b_l_always_k08 x⟩
-- l_always_k08 0:things 1:lots_here 2:some 3:weights_here 4:told_here 5:lot
def b_l_sets (x : Ix) : Ss := (.cons (.set 2 false (.lst (.cons false (.tup .nil) .nil)))
 (.cons (.for_ (.one 3) (.e (.var 0)) (.cons (.set 2 false (.op .add (.var 2) (.comp (.op .add (.var 4) (.tup (.cons false (.var 3) .nil))) (.one 4) (.e (.var 2)) (.yes (.op .lt (.bi .len (.cons false (.var 4) .nil)) (.var 1))) [4])))
 .nil))
 (.cons (.ret (.comp (.sub (.var 4) (.k (.int (1)))) (.one 4) (.e (.bi .sorted (.cons false (.comp (.tup (.cons false (.bi .len (.cons false (.var 4) .nil)) (.cons false (.var 4) .nil))) (.one 4) (.e (.var 2)) .no [4]) .nil))) .no [4]))
 .nil)))
def d_l_sets (x : Ix) : Fd := ⟨2, 5, b_l_sets x⟩
-- l_sets 0:some 1:most 2:found 3:one 4:row
def b_l_smallest (x : Ix) : Ss := (.cons (.set 5 false (.lst .nil))
 (.cons (.for_ (.one 6) (.e (.call (x.f n_l_sets) (.cons false (.var 2) (.cons false (.var 3) .nil)))) (.cons (.ite (.or (.op .eq (.var 5) (.lst .nil)) (.op .eq (.bi .len (.cons false (.var 6) .nil)) (.bi .len (.cons false (.sub (.var 5) (.k (.int (0)))) .nil)))) (.cons (.set 7 false (.ite (.var 4) (.op .add (.var 1) (.var 6)) (.bi .tuple (.cons false (.comp (.var 8) (.one 8) (.e (.var 1)) (.yes (.op .nmem (.var 8) (.var 6))) [8]) .nil))))
 (.cons (.set 5 false (.ite (.call (x.f n_l_always_k08) (.cons false (.var 0) (.cons false (.var 7) .nil))) (.op .add (.var 5) (.lst (.cons false (.var 6) .nil))) (.var 5)))
 .nil)) .nil)
 .nil))
 (.cons (.ret (.var 5))
 .nil)))
def d_l_smallest (x : Ix) : Fd := ⟨5, 9, b_l_smallest x⟩
-- l_smallest 0:things 1:lots_here 2:some 3:most 4:is_more 5:found 6:row 7:later 8:lot
def b_l_told_k08 (x : Ix) : Ss := (.cons (.set 2 false (.k (.int (0))))
 (.cons (.try_ (.cons (.ex (.call (x.f n_strikes) (.cons false (.var 0) (.cons false (.var 1) .nil))))
 .nil) [⟨(x.c c_BadMost), none, (.set 2 (.inc 2))⟩])
 (.cons (.try_ (.cons (.ex (.call (x.f n_adds) (.cons false (.var 0) (.cons false (.var 1) .nil))))
 .nil) [⟨(x.c c_BadMost), none, (.set 2 (.inc 2))⟩])
 (.cons (.ret (.var 2))
 .nil))))
def d_l_told_k08 (x : Ix) : Fd := ⟨2, 3, b_l_told_k08 x⟩
-- l_told_k08 0:kind 1:most 2:found
def b_law_k08 (x : Ix) : Ss := (.cons (.set 1 true (.call (x.f n_l_random) (.cons false (.var 0) (.cons false (.k (.int (1808))) .nil))))
 (.cons (.unp [2, 3] (.call (x.f n_l_pick) (.cons false (.var 1) (.cons false (.lst (.cons false (.tup (.cons false (.k (.int (1))) (.cons false (.k (.int (2))) .nil))) (.cons false (.tup (.cons false (.k (.int (2))) (.cons false (.k (.int (2))) .nil))) (.cons false (.tup (.cons false (.k (.int (3))) (.cons false (.k (.int (1))) .nil))) (.cons false (.tup (.cons false (.k (.int (3))) (.cons false (.k (.int (2))) .nil))) (.cons false (.tup (.cons false (.k (.int (3))) (.cons false (.k (.int (2))) .nil))) (.cons false (.tup (.cons false (.k (.int (4))) (.cons false (.k (.int (1))) .nil))) (.cons false (.tup (.cons false (.k (.int (3))) (.cons false (.k (.int (0))) .nil))) (.cons false (.tup (.cons false (.k (.int (5))) (.cons false (.k (.int (0))) .nil))) (.cons false (.tup (.cons false (.k (.int (5))) (.cons false (.k (.int (1))) .nil))) .nil)))))))))) .nil))))
 (.cons (.set 4 false (.call (x.f n_l_lots) (.cons false (.var 1) (.cons false (.var 2) .nil))))
 (.cons (.set 5 false (.mk (x.c c_Kind) (.cons false (.var 2) (.cons false (.var 4) .nil))))
 (.cons (.set 6 false (.bi .sorted (.cons false (.comp (.var 8) (.one 8) (.e (.var 4)) (.yes (.op .ne (.var 8) (.tup .nil))) [8]) .nil)))
 (.cons (.set 7 false (.comp (.var 8) (.one 8) (.e (.call (x.f n_l_parts) (.cons false (.lrange (.var 2)) .nil))) (.yes (.op .nmem (.var 8) (.var 4))) [8]))
 (.cons (.ite (.not (.call (x.f n_l_equal) (.cons false (.call (x.f n_strikes) (.cons false (.var 5) (.cons false (.var 3) .nil))) (.cons false (.call (x.f n_l_smallest) (.cons false (.var 2) (.cons false (.var 4) (.cons false (.var 6) (.cons false (.var 3) (.cons false (.k (.bl false)) .nil)))))) .nil)))) (.cons (.ret (.k (.bl false)))
 .nil) .nil)
 (.cons (.ite (.not (.call (x.f n_l_equal) (.cons false (.call (x.f n_adds) (.cons false (.var 5) (.cons false (.var 3) .nil))) (.cons false (.call (x.f n_l_smallest) (.cons false (.var 2) (.cons false (.var 4) (.cons false (.var 7) (.cons false (.var 3) (.cons false (.k (.bl true)) .nil)))))) .nil)))) (.cons (.ret (.k (.bl false)))
 .nil) .nil)
 (.cons (.ret (.op .eq (.comp (.var 9) (.one 9) (.e (.lst (.cons false (.k .non) (.cons false (.neg (.k (.int (1)))) (.cons false (.k (.int (3))) (.cons false (.k (.str [49])) (.cons false (.k (.bl true)) (.cons false (.tup (.cons false (.k (.int (1))) .nil)) .nil)))))))) (.yes (.op .ne (.call (x.f n_l_told_k08) (.cons false (.var 5) (.cons false (.var 9) .nil))) (.k (.int (2))))) [9]) (.lst .nil)))
 .nil)))))))))
def d_law_k08 (x : Ix) : Fd := ⟨1, 10, b_law_k08 x⟩
-- law_k08 0:script 1:d 2:things 3:most 4:lots_here 5:kind 6:own 7:missing 8:lot 9:value
def b_l_met (x : Ix) : Ss := (.cons (.set 3 false (.lst (.cons false (.var 2) .nil)))
 (.cons (.for_ (.one 4) (.range1 (.k (.int (6)))) (.cons (.for_ (.one 5) (.e (.var 1)) (.cons (.set 6 false (.comp (.var 7) (.one 7) (.e (.sub (.var 0) (.var 5))) (.yes (.op .mem (.var 7) (.var 3))) [7]))
 (.cons (.ite (.op .eq (.bi .len (.cons false (.var 6) .nil)) (.k (.int (1)))) (.cons (.set 3 false (.op .add (.var 3) (.comp (.var 7) (.one 7) (.e (.sub (.var 0) (.var 5))) (.yes (.op .nmem (.var 7) (.var 3))) [7])))
 .nil) .nil)
 .nil)))
 .nil))
 (.cons (.ret (.var 3))
 .nil)))
def d_l_met (x : Ix) : Fd := ⟨3, 8, b_l_met x⟩
-- l_met 0:lines 1:some 2:root 3:found 4:lap 5:line 6:ends 7:place
def b_l_ringless (x : Ix) : Ss := (.cons (.for_ (.one 2) (.range1 (.bi .len (.cons false (.var 1) .nil))) (.cons (.ite (.op .mem (.sub (.sub (.var 0) (.sub (.var 1) (.var 2))) (.k (.int (1)))) (.call (x.f n_l_met) (.cons false (.var 0) (.cons false (.slice (.var 1) .no (.yes (.var 2))) (.cons false (.sub (.sub (.var 0) (.sub (.var 1) (.var 2))) (.k (.int (0)))) .nil))))) (.cons (.ret (.k (.bl false)))
 .nil) .nil)
 .nil))
 (.cons (.ret (.k (.bl true)))
 .nil))
def d_l_ringless (x : Ix) : Fd := ⟨2, 3, b_l_ringless x⟩
-- l_ringless 0:lines 1:some 2:k
def b_l_told_k09 (x : Ix) : Ss := (.cons (.set 4 false (.k .non))
 (.cons (.try_ (.cons (.ite (.op .eq (.var 0) (.k (.str [102, 111, 114, 101, 115, 116, 115]))) (.cons (.ex (.call (x.f n_forests) (.cons false (.var 1) (.cons false (.var 2) .nil))))
 .nil) (.cons (.ite (.op .eq (.var 0) (.k (.str [103, 114, 111, 119, 110]))) (.cons (.ex (.call (x.f n_grown) (.cons false (.var 1) (.cons false (.var 2) (.cons false (.var 3) .nil)))))
 .nil) (.cons (.ite (.op .eq (.var 0) (.k (.str [112, 97, 105, 114, 101, 100]))) (.cons (.ex (.call (x.f n_paired) (.cons false (.var 1) (.cons false (.var 2) .nil))))
 .nil) (.cons (.ex (.call (x.f n_worked) (.cons false (.var 1) (.cons false (.var 2) .nil))))
 .nil))
 .nil))
 .nil))
 .nil) [⟨(x.c c_BadPlaces), none, (.set 4 (.k (.str [112, 108, 97, 99, 101, 115])))⟩, ⟨(x.c c_BadLines), some 5, (.set 4 (.pair (.k (.str [108, 105, 110, 101, 115])) (.fld 0)))⟩, ⟨(x.c c_BadRoot), none, (.set 4 (.k (.str [114, 111, 111, 116])))⟩, ⟨(x.c c_BadThings), none, (.set 4 (.k (.str [116, 104, 105, 110, 103, 115])))⟩, ⟨(x.c c_BadPairs), some 5, (.set 4 (.pair (.k (.str [112, 97, 105, 114, 115])) (.fld 0)))⟩])
 (.cons (.ret (.var 4))
 .nil)))
def d_l_told_k09 (x : Ix) : Fd := ⟨4, 6, b_l_told_k09 x⟩
-- l_told_k09 0:way 1:one 2:two 3:three 4:found 5:e
def b_l_lines_refused (x : Ix) : Ss := (.cons (.set 3 false (.call (x.f n_l_pick) (.cons false (.var 0) (.cons false (.lst (.cons false (.k .non) (.cons false (.tup .nil) (.cons false (.tup (.cons false (.k (.int (1))) (.cons false (.k (.int (0))) .nil))) (.cons false (.tup (.cons false (.k (.int (0))) (.cons false (.k (.int (0))) .nil))) (.cons false (.tup (.cons false (.k (.int (0))) (.cons false (.var 1) .nil))) (.cons false (.tup (.cons false (.k (.int (0))) .nil)) (.cons false (.lst (.cons false (.k (.int (0))) (.cons false (.k (.int (1))) .nil))) (.cons false (.tup (.cons false (.k (.bl false)) (.cons false (.k (.int (1))) .nil))) (.cons false (.tup (.cons false (.k (.int (0))) (.cons false (.k (.int (1))) (.cons false (.k (.int (1))) .nil)))) (.cons false (.k (.str [48, 49])) (.cons false (.sub (.var 2) (.k (.int (0)))) .nil)))))))))))) .nil))))
 (.cons (.for_ (.one 4) (.e (.lst (.cons false (.k (.str [102, 111, 114, 101, 115, 116, 115])) (.cons false (.k (.str [103, 114, 111, 119, 110])) (.cons false (.k (.str [112, 97, 105, 114, 101, 100])) .nil))))) (.cons (.for_ (.one 5) (.e (.lst (.cons false (.k .non) (.cons false (.k (.int (1))) (.cons false (.k (.int (7))) (.cons false (.k (.str [51])) (.cons false (.k (.bl true)) .nil))))))) (.cons (.ite (.op .ne (.call (x.f n_l_told_k09) (.cons false (.var 4) (.cons false (.var 5) (.cons false (.k .non) (.cons false (.k .non) .nil))))) (.k (.str [112, 108, 97, 99, 101, 115]))) (.cons (.ret (.k (.bl false)))
 .nil) .nil)
 .nil))
 (.cons (.for_ (.one 5) (.e (.lst (.cons false (.k .non) (.cons false (.tup .nil) (.cons false (.bi .list (.cons false (.var 2) .nil)) (.cons false (.k (.int (3))) (.cons false (.op .mul (.slice (.var 2) .no (.yes (.k (.int (1))))) (.k (.int (6)))) .nil))))))) (.cons (.ite (.op .ne (.call (x.f n_l_told_k09) (.cons false (.var 4) (.cons false (.var 1) (.cons false (.var 5) (.cons false (.k .non) .nil))))) (.tup (.cons false (.k (.str [108, 105, 110, 101, 115])) (.cons false (.k .non) .nil)))) (.cons (.ret (.k (.bl false)))
 .nil) .nil)
 .nil))
 (.cons (.ite (.op .ne (.call (x.f n_l_told_k09) (.cons false (.var 4) (.cons false (.var 1) (.cons false (.op .add (.slice (.var 2) .no (.yes (.k (.int (4))))) (.tup (.cons false (.var 3) .nil))) (.cons false (.k .non) .nil))))) (.tup (.cons false (.k (.str [108, 105, 110, 101, 115])) (.cons false (.bi .len (.cons false (.slice (.var 2) .no (.yes (.k (.int (4))))) .nil)) .nil)))) (.cons (.ret (.k (.bl false)))
 .nil) .nil)
 .nil))))
 (.cons (.for_ (.one 5) (.e (.lst (.cons false (.k .non) (.cons false (.neg (.k (.int (1)))) (.cons false (.var 1) (.cons false (.k (.str [48])) (.cons false (.k (.bl true)) .nil))))))) (.cons (.ite (.op .ne (.call (x.f n_l_told_k09) (.cons false (.k (.str [103, 114, 111, 119, 110])) (.cons false (.var 1) (.cons false (.var 2) (.cons false (.var 5) .nil))))) (.k (.str [114, 111, 111, 116]))) (.cons (.ret (.k (.bl false)))
 .nil) .nil)
 .nil))
 (.cons (.ret (.k (.bl true)))
 .nil))))
def d_l_lines_refused (x : Ix) : Fd := ⟨3, 6, b_l_lines_refused x⟩
-- l_lines_refused 0:d 1:places 2:lines 3:bad 4:way 5:value
def b_l_work (x : Ix) : Ss := (.cons (.set 1 false (.op .add (.k (.int (1))) (.call (x.f n_l_below) (.cons false (.var 0) (.cons false (.k (.int (5))) .nil)))))
 (.cons (.set 2 false (.bi .tuple (.cons false (.comp (.tup (.cons false (.call (x.f n_l_below) (.cons false (.var 0) (.cons false (.var 1) .nil))) (.cons false (.call (x.f n_l_below) (.cons false (.var 0) (.cons false (.var 1) .nil))) .nil))) (.one 7) (.range1 (.call (x.f n_l_below) (.cons false (.var 0) (.cons false (.k (.int (5))) .nil)))) .no [7]) .nil)))
 (.cons (.set 3 true (.lst .nil))
 (.cons (.for_ (.one 4) (.e (.call (x.f n_l_parts) (.cons false (.lrange (.var 1)) .nil))) (.cons (.ite (.op .eq (.comp (.var 8) (.one 8) (.e (.var 2)) (.yes (.and (.op .mem (.sub (.var 8) (.k (.int (1)))) (.var 4)) (.op .nmem (.sub (.var 8) (.k (.int (0)))) (.var 4)))) [8]) (.lst .nil)) (.cons (.ex (.app (.var 3) (.var 4)))
 .nil) .nil)
 .nil))
 (.cons (.ite (.not (.call (x.f n_l_equal) (.cons false (.prop (x.c c_Kind) (x.f n_Kind_lots) (.call (x.f n_worked) (.cons false (.var 1) (.cons false (.var 2) .nil)))) (.cons false (.bi .tuple (.cons false (.var 3) .nil)) .nil)))) (.cons (.ret (.k (.bl false)))
 .nil) .nil)
 (.cons (.set 5 false (.call (x.f n_l_pick) (.cons false (.var 0) (.cons false (.lst (.cons false (.k .non) (.cons false (.tup .nil) (.cons false (.tup (.cons false (.k (.int (0))) .nil)) (.cons false (.tup (.cons false (.k (.int (0))) (.cons false (.var 1) .nil))) (.cons false (.lst (.cons false (.k (.int (0))) (.cons false (.k (.int (0))) .nil))) (.cons false (.tup (.cons false (.k (.bl true)) (.cons false (.k (.int (0))) .nil))) (.cons false (.tup (.cons false (.neg (.k (.int (1)))) (.cons false (.k (.int (0))) .nil))) (.cons false (.tup (.cons false (.k (.int (0))) (.cons false (.k (.int (0))) (.cons false (.k (.int (0))) .nil)))) (.cons false (.k (.str [48, 48])) .nil)))))))))) .nil))))
 (.cons (.for_ (.one 6) (.e (.lst (.cons false (.k .non) (.cons false (.k (.int (0))) (.cons false (.k (.int (6))) (.cons false (.k (.str [49])) (.cons false (.k (.bl true)) .nil))))))) (.cons (.ite (.op .ne (.call (x.f n_l_told_k09) (.cons false (.k (.str [119, 111, 114, 107, 101, 100])) (.cons false (.var 6) (.cons false (.k .non) (.cons false (.k .non) .nil))))) (.k (.str [116, 104, 105, 110, 103, 115]))) (.cons (.ret (.k (.bl false)))
 .nil) .nil)
 .nil))
 (.cons (.ite (.op .ne (.call (x.f n_l_told_k09) (.cons false (.k (.str [119, 111, 114, 107, 101, 100])) (.cons false (.var 1) (.cons false (.k .non) (.cons false (.k .non) .nil))))) (.tup (.cons false (.k (.str [112, 97, 105, 114, 115])) (.cons false (.k .non) .nil)))) (.cons (.ret (.k (.bl false)))
 .nil) .nil)
 (.cons (.ite (.op .ne (.call (x.f n_l_told_k09) (.cons false (.k (.str [119, 111, 114, 107, 101, 100])) (.cons false (.k (.int (1))) (.cons false (.lst .nil) (.cons false (.k .non) .nil))))) (.tup (.cons false (.k (.str [112, 97, 105, 114, 115])) (.cons false (.k .non) .nil)))) (.cons (.ret (.k (.bl false)))
 .nil) .nil)
 (.cons (.ite (.op .ne (.call (x.f n_l_told_k09) (.cons false (.k (.str [119, 111, 114, 107, 101, 100])) (.cons false (.var 1) (.cons false (.op .add (.var 2) (.tup (.cons false (.var 5) .nil))) (.cons false (.k .non) .nil))))) (.tup (.cons false (.k (.str [112, 97, 105, 114, 115])) (.cons false (.bi .len (.cons false (.var 2) .nil)) .nil)))) (.cons (.ret (.k (.bl false)))
 .nil) .nil)
 (.cons (.ret (.k (.bl true)))
 .nil)))))))))))
def d_l_work (x : Ix) : Fd := ⟨1, 9, b_l_work x⟩
-- l_work 0:d 1:things 2:before 3:due 4:some 5:bad 6:value 7:k 8:pair
def b_law_k09 (x : Ix) : Ss := (.cons (.set 1 true (.call (x.f n_l_random) (.cons false (.var 0) (.cons false (.k (.int (1809))) .nil))))
 (.cons (.set 2 false (.op .add (.k (.int (2))) (.call (x.f n_l_below) (.cons false (.var 1) (.cons false (.k (.int (5))) .nil)))))
 (.cons (.par 3 false 4 false (.tup .nil) (.call (x.f n_l_below) (.cons false (.var 1) (.cons false (.var 2) .nil))))
 (.cons (.for_ (.one 5) (.range1 (.op .add (.k (.int (1))) (.call (x.f n_l_below) (.cons false (.var 1) (.cons false (.k (.int (5))) .nil))))) (.cons (.set 6 false (.call (x.f n_l_below) (.cons false (.var 1) (.cons false (.op .sub (.var 2) (.k (.int (1)))) .nil))))
 (.cons (.set 7 false (.tup (.cons false (.var 6) (.cons false (.op .add (.op .add (.var 6) (.k (.int (1)))) (.call (x.f n_l_below) (.cons false (.var 1) (.cons false (.op .sub (.op .sub (.var 2) (.k (.int (1)))) (.var 6)) .nil)))) .nil))))
 (.cons (.set 3 false (.ite (.op .mem (.var 7) (.var 3)) (.var 3) (.op .add (.var 3) (.tup (.cons false (.var 7) .nil)))))
 .nil))))
 (.cons (.set 8 false (.call (x.f n_l_parts) (.cons false (.lrange (.bi .len (.cons false (.var 3) .nil))) .nil)))
 (.cons (.set 9 true (.bi .tuple (.cons false (.comp (.var 11) (.one 11) (.e (.var 8)) (.yes (.call (x.f n_l_ringless) (.cons false (.var 3) (.cons false (.var 11) .nil)))) [11]) .nil)))
 (.cons (.ite (.or (.not (.call (x.f n_l_equal) (.cons false (.prop (x.c c_Kind) (x.f n_Kind_lots) (.call (x.f n_forests) (.cons false (.var 2) (.cons false (.var 3) .nil)))) (.cons false (.var 9) .nil)))) (.op .ne (.prop (x.c c_Kind) (x.f n_Kind_things) (.call (x.f n_forests) (.cons false (.var 2) (.cons false (.var 3) .nil)))) (.bi .len (.cons false (.var 3) .nil)))) (.cons (.ret (.k (.bl false)))
 .nil) .nil)
 (.cons (.set 10 true (.lst .nil))
 (.cons (.for_ (.one 11) (.e (.var 9)) (.cons (.set 12 false (.call (x.f n_l_met) (.cons false (.var 3) (.cons false (.var 11) (.cons false (.var 4) .nil)))))
 (.cons (.ite (.op .eq (.comp (.var 7) (.one 7) (.e (.var 11)) (.yes (.op .nmem (.sub (.sub (.var 3) (.var 7)) (.k (.int (0)))) (.var 12))) [7]) (.lst .nil)) (.cons (.ex (.app (.var 10) (.var 11)))
 .nil) .nil)
 .nil)))
 (.cons (.ite (.not (.call (x.f n_l_equal) (.cons false (.prop (x.c c_Kind) (x.f n_Kind_lots) (.call (x.f n_grown) (.cons false (.var 2) (.cons false (.var 3) (.cons false (.var 4) .nil))))) (.cons false (.bi .tuple (.cons false (.var 10) .nil)) .nil)))) (.cons (.ret (.k (.bl false)))
 .nil) .nil)
 (.cons (.set 9 true (.lst .nil))
 (.cons (.for_ (.one 11) (.e (.var 8)) (.cons (.set 13 false (.op .add (.comp (.sub (.sub (.var 3) (.var 7)) (.k (.int (0)))) (.one 7) (.e (.var 11)) .no [7]) (.comp (.sub (.sub (.var 3) (.var 7)) (.k (.int (1)))) (.one 7) (.e (.var 11)) .no [7])))
 (.cons (.ite (.op .eq (.bi .lenSet (.cons false (.var 13) .nil)) (.bi .len (.cons false (.var 13) .nil))) (.cons (.ex (.app (.var 9) (.var 11)))
 .nil) .nil)
 .nil)))
 (.cons (.ite (.not (.call (x.f n_l_equal) (.cons false (.prop (x.c c_Kind) (x.f n_Kind_lots) (.call (x.f n_paired) (.cons false (.var 2) (.cons false (.var 3) .nil)))) (.cons false (.bi .tuple (.cons false (.var 9) .nil)) .nil)))) (.cons (.ret (.k (.bl false)))
 .nil) .nil)
 (.cons (.ret (.and (.call (x.f n_l_work) (.cons false (.var 1) .nil)) (.call (x.f n_l_lines_refused) (.cons false (.var 1) (.cons false (.var 2) (.cons false (.var 3) .nil))))))
 .nil))))))))))))))
def d_law_k09 (x : Ix) : Fd := ⟨1, 14, b_law_k09 x⟩
-- law_k09 0:script 1:d 2:places 3:lines 4:root 5:k 6:one 7:line 8:parts_here 9:due 10:hung 11:some 12:met_so 13:told_here
def b_l_less (x : Ix) : Ss := (.cons (.ret (.bi .tuple (.cons false (.comp (.ite (.op .lt (.var 2) (.var 1)) (.var 2) (.op .sub (.var 2) (.k (.int (1))))) (.one 2) (.e (.var 0)) (.yes (.op .ne (.var 2) (.var 1))) [2]) .nil)))
 .nil)
def d_l_less (x : Ix) : Fd := ⟨2, 3, b_l_less x⟩
-- l_less 0:lot 1:thing 2:one
def b_l_told_k10 (x : Ix) : Ss := (.cons (.set 3 false (.k (.str [])))
 (.cons (.try_ (.cons (.ite (.op .eq (.var 0) (.k (.str [119, 105, 116, 104, 111, 117, 116]))) (.cons (.ex (.call (x.f n_without) (.cons false (.var 1) (.cons false (.var 2) .nil))))
 .nil) (.cons (.ite (.op .eq (.var 0) (.k (.str [98, 101, 115, 105, 100, 101]))) (.cons (.ex (.call (x.f n_beside) (.cons false (.var 1) (.cons false (.var 2) .nil))))
 .nil) (.cons (.ite (.op .eq (.var 0) (.k (.str [99, 117, 116]))) (.cons (.ex (.call (x.f n_cut) (.cons false (.var 1) (.cons false (.var 2) .nil))))
 .nil) (.cons (.ex (.call (x.f n_joined) (.cons false (.var 1) (.cons false (.var 2) .nil))))
 .nil))
 .nil))
 .nil))
 .nil) [⟨(x.c c_BadThing), none, (.set 3 (.k (.str [116, 104, 105, 110, 103])))⟩, ⟨(x.c c_BadMost), none, (.set 3 (.k (.str [109, 111, 115, 116])))⟩, ⟨(x.c c_TooMany), none, (.set 3 (.k (.str [109, 97, 110, 121])))⟩])
 (.cons (.ret (.var 3))
 .nil)))
def d_l_told_k10 (x : Ix) : Fd := ⟨3, 4, b_l_told_k10 x⟩
-- l_told_k10 0:way 1:kind 2:value 3:found
def b_l_lessened (x : Ix) : Ss := (.cons (.for_ (.one 3) (.range1 (.var 1)) (.cons (.ite (.op .eq (.var 1) (.k (.int (1)))) (.cons (.ite (.or (.op .ne (.call (x.f n_l_told_k10) (.cons false (.k (.str [119, 105, 116, 104, 111, 117, 116])) (.cons false (.var 0) (.cons false (.k (.int (0))) .nil)))) (.k (.str [116, 104, 105, 110, 103]))) (.op .ne (.call (x.f n_l_told_k10) (.cons false (.k (.str [98, 101, 115, 105, 100, 101])) (.cons false (.var 0) (.cons false (.k (.int (0))) .nil)))) (.k (.str [116, 104, 105, 110, 103])))) (.cons (.ret (.k (.bl false)))
 .nil) .nil)
 .nil) (.cons (.set 4 false (.bi .tuple (.cons false (.bi .sorted (.cons false (.comp (.call (x.f n_l_less) (.cons false (.var 5) (.cons false (.var 3) .nil))) (.one 5) (.e (.var 2)) (.yes (.op .nmem (.var 3) (.var 5))) [5]) .nil)) .nil)))
 (.cons (.ite (.or (.not (.call (x.f n_l_equal) (.cons false (.prop (x.c c_Kind) (x.f n_Kind_lots) (.call (x.f n_without) (.cons false (.var 0) (.cons false (.var 3) .nil)))) (.cons false (.var 4) .nil)))) (.op .ne (.prop (x.c c_Kind) (x.f n_Kind_things) (.call (x.f n_without) (.cons false (.var 0) (.cons false (.var 3) .nil)))) (.op .sub (.var 1) (.k (.int (1)))))) (.cons (.ret (.k (.bl false)))
 .nil) .nil)
 (.cons (.set 4 false (.bi .tuple (.cons false (.bi .sorted (.cons false (.comp (.call (x.f n_l_less) (.cons false (.var 5) (.cons false (.var 3) .nil))) (.one 5) (.e (.var 2)) (.yes (.op .mem (.var 3) (.var 5))) [5]) .nil)) .nil)))
 (.cons (.ite (.op .nmem (.tup (.cons false (.var 3) .nil)) (.var 2)) (.cons (.ite (.op .ne (.call (x.f n_l_told_k10) (.cons false (.k (.str [98, 101, 115, 105, 100, 101])) (.cons false (.var 0) (.cons false (.var 3) .nil)))) (.k (.str [116, 104, 105, 110, 103]))) (.cons (.ret (.k (.bl false)))
 .nil) .nil)
 .nil) (.cons (.ite (.or (.not (.call (x.f n_l_equal) (.cons false (.prop (x.c c_Kind) (x.f n_Kind_lots) (.call (x.f n_beside) (.cons false (.var 0) (.cons false (.var 3) .nil)))) (.cons false (.var 4) .nil)))) (.op .ne (.prop (x.c c_Kind) (x.f n_Kind_things) (.call (x.f n_beside) (.cons false (.var 0) (.cons false (.var 3) .nil)))) (.op .sub (.var 1) (.k (.int (1)))))) (.cons (.ret (.k (.bl false)))
 .nil) .nil)
 .nil))
 .nil)))))
 .nil))
 (.cons (.ret (.k (.bl true)))
 .nil))
def d_l_lessened (x : Ix) : Fd := ⟨3, 6, b_l_lessened x⟩
-- l_lessened 0:kind 1:things 2:lots_here 3:thing 4:due 5:lot
def b_law_k10 (x : Ix) : Ss := (.cons (.set 1 true (.call (x.f n_l_random) (.cons false (.var 0) (.cons false (.k (.int (1810))) .nil))))
 (.cons (.par 2 false 3 false (.op .add (.k (.int (1))) (.call (x.f n_l_below) (.cons false (.var 1) (.cons false (.k (.int (5))) .nil)))) (.op .add (.k (.int (1))) (.call (x.f n_l_below) (.cons false (.var 1) (.cons false (.k (.int (5))) .nil)))))
 (.cons (.par 4 false 5 false (.call (x.f n_l_lots) (.cons false (.var 1) (.cons false (.var 2) .nil))) (.call (x.f n_l_lots) (.cons false (.var 1) (.cons false (.var 3) .nil))))
 (.cons (.par 6 false 7 false (.mk (x.c c_Kind) (.cons false (.var 2) (.cons false (.var 4) .nil))) (.mk (x.c c_Kind) (.cons false (.var 3) (.cons false (.var 5) .nil))))
 (.cons (.ite (.op .gt (.op .add (.var 2) (.var 3)) (.k (.int (5)))) (.cons (.ite (.op .ne (.call (x.f n_l_told_k10) (.cons false (.k (.str [106, 111, 105, 110, 101, 100])) (.cons false (.var 6) (.cons false (.var 7) .nil)))) (.k (.str [109, 97, 110, 121]))) (.cons (.ret (.k (.bl false)))
 .nil) .nil)
 .nil) (.cons (.set 8 false (.lst .nil))
 (.cons (.for_ (.one 9) (.e (.var 4)) (.cons (.set 8 false (.op .add (.var 8) (.comp (.op .add (.var 9) (.bi .tuple (.cons false (.comp (.op .add (.var 14) (.var 2)) (.one 14) (.e (.var 13)) .no [14]) .nil))) (.one 13) (.e (.var 5)) .no [13])))
 .nil))
 (.cons (.set 10 false (.call (x.f n_joined) (.cons false (.var 6) (.cons false (.var 7) .nil))))
 (.cons (.ite (.or (.not (.call (x.f n_l_equal) (.cons false (.prop (x.c c_Kind) (x.f n_Kind_lots) (.var 10)) (.cons false (.bi .tuple (.cons false (.bi .sorted (.cons false (.var 8) .nil)) .nil)) .nil)))) (.op .ne (.prop (x.c c_Kind) (x.f n_Kind_things) (.var 10)) (.op .add (.var 2) (.var 3)))) (.cons (.ret (.k (.bl false)))
 .nil) .nil)
 .nil)))))
 (.cons (.ite (.not (.call (x.f n_l_lessened) (.cons false (.var 6) (.cons false (.var 2) (.cons false (.var 4) .nil))))) (.cons (.ret (.k (.bl false)))
 .nil) .nil)
 (.cons (.for_ (.one 11) (.range1 (.k (.int (6)))) (.cons (.ite (.not (.call (x.f n_l_equal) (.cons false (.prop (x.c c_Kind) (x.f n_Kind_lots) (.call (x.f n_cut) (.cons false (.var 6) (.cons false (.var 11) .nil)))) (.cons false (.bi .tuple (.cons false (.bi .sorted (.cons false (.comp (.var 9) (.one 9) (.e (.var 4)) (.yes (.op .le (.bi .len (.cons false (.var 9) .nil)) (.var 11))) [9]) .nil)) .nil)) .nil)))) (.cons (.ret (.k (.bl false)))
 .nil) .nil)
 .nil))
 (.cons (.for_ (.one 12) (.e (.lst (.cons false (.k .non) (.cons false (.neg (.k (.int (1)))) (.cons false (.var 2) (.cons false (.k (.str [48])) (.cons false (.k (.bl true)) (.cons false (.tup (.cons false (.k (.int (0))) .nil)) .nil)))))))) (.cons (.ite (.or (.op .ne (.call (x.f n_l_told_k10) (.cons false (.k (.str [119, 105, 116, 104, 111, 117, 116])) (.cons false (.var 6) (.cons false (.var 12) .nil)))) (.k (.str [116, 104, 105, 110, 103]))) (.op .ne (.call (x.f n_l_told_k10) (.cons false (.k (.str [98, 101, 115, 105, 100, 101])) (.cons false (.var 6) (.cons false (.var 12) .nil)))) (.k (.str [116, 104, 105, 110, 103])))) (.cons (.ret (.k (.bl false)))
 .nil) .nil)
 .nil))
 (.cons (.ret (.op .eq (.comp (.var 12) (.one 12) (.e (.lst (.cons false (.k .non) (.cons false (.neg (.k (.int (1)))) (.cons false (.k (.int (6))) (.cons false (.k (.str [48])) (.cons false (.k (.bl true)) (.cons false (.tup (.cons false (.k (.int (0))) .nil)) .nil)))))))) (.yes (.op .ne (.call (x.f n_l_told_k10) (.cons false (.k (.str [99, 117, 116])) (.cons false (.var 6) (.cons false (.var 12) .nil)))) (.k (.str [109, 111, 115, 116])))) [12]) (.lst .nil)))
 .nil)))))))))
def d_law_k10 (x : Ix) : Fd := ⟨1, 15, b_law_k10 x⟩
-- law_k10 0:script 1:d 2:things 3:many 4:lots_here 5:others 6:kind 7:other 8:due 9:lot 10:told_here 11:most 12:value 13:rest 14:one
def b_l_told_k11 (x : Ix) : Ss := (.cons (.set 2 false (.k (.int (0))))
 (.cons (.try_ (.cons (.ex (.call (x.f n_alike) (.cons false (.var 0) (.cons false (.var 1) .nil))))
 .nil) [⟨(x.c c_Unlike), none, (.set 2 (.inc 2))⟩])
 (.cons (.try_ (.cons (.ex (.call (x.f n_parting) (.cons false (.var 0) (.cons false (.var 1) .nil))))
 .nil) [⟨(x.c c_Unlike), none, (.set 2 (.inc 2))⟩])
 (.cons (.ret (.var 2))
 .nil))))
def d_l_told_k11 (x : Ix) : Fd := ⟨2, 3, b_l_told_k11 x⟩
-- l_told_k11 0:one 1:other 2:found
def b_law_k11 (x : Ix) : Ss := (.cons (.set 1 true (.call (x.f n_l_random) (.cons false (.var 0) (.cons false (.k (.int (1811))) .nil))))
 (.cons (.for_ (.one 2) (.range1 (.k (.int (3)))) (.cons (.set 3 false (.call (x.f n_l_pick) (.cons false (.var 1) (.cons false (.lst (.cons false (.k (.int (1))) (.cons false (.k (.int (2))) (.cons false (.k (.int (3))) (.cons false (.k (.int (3))) (.cons false (.k (.int (4))) (.cons false (.k (.int (4))) (.cons false (.k (.int (5))) .nil)))))))) .nil))))
 (.cons (.set 4 false (.call (x.f n_l_lots) (.cons false (.var 1) (.cons false (.var 3) .nil))))
 (.cons (.set 5 false (.call (x.f n_l_pick) (.cons false (.var 1) (.cons false (.var 4) .nil))))
 (.cons (.set 6 false (.bi .tuple (.cons false (.comp (.var 17) (.one 17) (.e (.var 4)) (.yes (.or (.op .eq (.var 17) (.tup .nil)) (.op .ne (.var 17) (.var 5)))) [17]) .nil)))
 (.cons (.set 7 false (.comp (.var 17) (.one 17) (.e (.call (x.f n_l_parts) (.cons false (.lrange (.var 3)) .nil))) (.yes (.op .nmem (.var 17) (.var 4))) [17]))
 (.cons (.set 8 false (.ite (.op .ne (.var 7) (.lst .nil)) (.op .add (.var 4) (.tup (.cons false (.call (x.f n_l_pick) (.cons false (.var 1) (.cons false (.var 7) .nil))) .nil))) (.var 4)))
 (.cons (.set 9 false (.call (x.f n_l_pick) (.cons false (.var 1) (.cons false (.lst (.cons false (.var 6) (.cons false (.var 8) (.cons false (.var 4) (.cons false (.call (x.f n_l_lots) (.cons false (.var 1) (.cons false (.var 3) .nil))) .nil))))) .nil))))
 (.cons (.set 10 false (.k .non))
 (.cons (.for_ (.one 11) (.e (.call (x.f n_l_orders) (.cons false (.var 3) .nil))) (.cons (.set 12 false (.call (x.f n_l_falling) (.cons false (.var 11) .nil)))
 (.cons (.set 13 false (.call (x.f n_l_taken) (.cons false (.var 3) (.cons false (.var 4) (.cons false (.var 12) .nil)))))
 (.cons (.ite (.and (.isN (.var 10)) (.op .ne (.var 13) (.call (x.f n_l_taken) (.cons false (.var 3) (.cons false (.var 9) (.cons false (.var 12) .nil)))))) (.cons (.set 10 false (.var 12))
 .nil) .nil)
 .nil))))
 (.cons (.par 14 false 15 false (.mk (x.c c_Kind) (.cons false (.var 3) (.cons false (.var 4) .nil))) (.mk (x.c c_Kind) (.cons false (.var 3) (.cons false (.var 9) .nil))))
 (.cons (.ite (.or (.not (.call (x.f n_l_equal) (.cons false (.call (x.f n_parting) (.cons false (.var 14) (.cons false (.var 15) .nil))) (.cons false (.var 10) .nil)))) (.not (.call (x.f n_l_equal) (.cons false (.call (x.f n_alike) (.cons false (.var 14) (.cons false (.var 15) .nil))) (.cons false (.isN (.var 10)) .nil))))) (.cons (.ret (.k (.bl false)))
 .nil) .nil)
 (.cons (.for_ (.one 16) (.range1 (.k (.int (3)))) (.cons (.set 12 false (.call (x.f n_l_weights) (.cons false (.var 1) (.cons false (.var 3) .nil))))
 (.cons (.set 13 false (.call (x.f n_l_taken) (.cons false (.var 3) (.cons false (.var 4) (.cons false (.var 12) .nil)))))
 (.cons (.ite (.and (.isN (.var 10)) (.op .ne (.var 13) (.call (x.f n_l_taken) (.cons false (.var 3) (.cons false (.var 9) (.cons false (.var 12) .nil)))))) (.cons (.ret (.k (.bl false)))
 .nil) .nil)
 .nil))))
 (.cons (.ite (.and (.op .lt (.var 3) (.k (.int (5)))) (.op .ne (.call (x.f n_l_told_k11) (.cons false (.var 14) (.cons false (.mk (x.c c_Kind) (.cons false (.op .add (.var 3) (.k (.int (1)))) (.cons false (.var 4) .nil))) .nil))) (.k (.int (2))))) (.cons (.ret (.k (.bl false)))
 .nil) .nil)
 .nil))))))))))))))
 (.cons (.ret (.k (.bl true)))
 .nil)))
def d_law_k11 (x : Ix) : Fd := ⟨1, 18, b_law_k11 x⟩
-- law_k11 0:script 1:d 2:turn 3:things 4:lots_here 5:struck 6:near 7:missing 8:more 9:others 10:due 11:order 12:weights_here 13:first 14:one 15:other 16:lap 17:lot
def b_l_stands (x : Ix) : Ss := (.cons (.unp [5, 6] (.var 3))
 (.cons (.set 7 false (.bi .tuple (.cons false (.bi .sorted (.cons false (.var 6) .nil)) .nil)))
 (.cons (.ite (.or (.not (.call (x.f n_l_equal) (.cons false (.prop (x.c c_Plan) (x.f n_Plan_weights) (.var 0)) (.cons false (.var 5) .nil)))) (.or (.not (.call (x.f n_l_equal) (.cons false (.prop (x.c c_Plan) (x.f n_Plan_row) (.var 0)) (.cons false (.var 6) .nil)))) (.not (.call (x.f n_l_equal) (.cons false (.prop (x.c c_Plan) (x.f n_Plan_lot) (.var 0)) (.cons false (.var 7) .nil)))))) (.cons (.ret (.k (.bl false)))
 .nil) .nil)
 (.cons (.ret (.and (.call (x.f n_l_equal) (.cons false (.meth (x.c c_Plan) (x.f n_Plan_open_things) (.var 0) .nil) (.cons false (.call (x.f n_l_added) (.cons false (.var 1) (.cons false (.var 2) (.cons false (.var 7) .nil)))) .nil))) (.call (x.f n_l_equal) (.cons false (.bi .len (.cons false (.var 0) .nil)) (.cons false (.var 4) .nil)))))
 .nil))))
def d_l_stands (x : Ix) : Fd := ⟨5, 8, b_l_stands x⟩
-- l_stands 0:plan 1:things 2:lots_here 3:now 4:many 5:weights_here 6:row 7:lot
def b_l_step (x : Ix) : Ss := (.cons (.unp [5, 6] (.var 4))
 (.cons (.par 7 false 8 false (.call (x.f n_l_added) (.cons false (.var 2) (.cons false (.var 3) (.cons false (.bi .tuple (.cons false (.bi .sorted (.cons false (.var 6) .nil)) .nil)) .nil)))) (.call (x.f n_l_below) (.cons false (.var 0) (.cons false (.k (.int (3))) .nil))))
 (.cons (.ite (.op .eq (.var 8) (.k (.int (0)))) (.cons (.par 9 false 10 false (.call (x.f n_l_below) (.cons false (.var 0) (.cons false (.var 2) .nil))) (.op .sub (.call (x.f n_l_below) (.cons false (.var 0) (.cons false (.k (.int (199))) .nil))) (.k (.int (99)))))
 (.cons (.set 11 false (.op .add (.op .add (.slice (.var 5) .no (.yes (.var 9))) (.tup (.cons false (.var 10) .nil))) (.slice (.var 5) (.yes (.op .add (.var 9) (.k (.int (1))))) .no)))
 (.cons (.ret (.tup (.cons false (.tup (.cons false (.var 11) (.cons false (.var 6) .nil))) (.cons false (.k (.bl true)) (.cons false (.isN (.meth (x.c c_Plan) (x.f n_Plan_weigh) (.var 1) (.cons false (.var 9) (.cons false (.var 10) .nil)))) .nil)))))
 .nil))) .nil)
 (.cons (.ite (.and (.op .eq (.var 8) (.k (.int (1)))) (.op .ne (.var 7) (.lst .nil))) (.cons (.set 9 false (.call (x.f n_l_pick) (.cons false (.var 0) (.cons false (.var 7) .nil))))
 (.cons (.ret (.tup (.cons false (.tup (.cons false (.var 5) (.cons false (.op .add (.var 6) (.tup (.cons false (.var 9) .nil))) .nil))) (.cons false (.k (.bl true)) (.cons false (.isN (.meth (x.c c_Plan) (x.f n_Plan_put) (.var 1) (.cons false (.var 9) .nil))) .nil)))))
 .nil)) .nil)
 (.cons (.ite (.op .eq (.var 7) (.lst .nil)) (.cons (.ret (.tup (.cons false (.var 4) (.cons false (.k (.bl false)) (.cons false (.isN (.meth (x.c c_Plan) (x.f n_Plan_take) (.var 1) .nil)) .nil)))))
 .nil) .nil)
 (.cons (.set 12 false (.bi .max (.cons false (.comp (.sub (.var 5) (.var 9)) (.one 9) (.e (.var 7)) .no [9]) .nil)))
 (.cons (.set 9 false (.sub (.comp (.var 13) (.one 13) (.e (.var 7)) (.yes (.op .eq (.sub (.var 5) (.var 13)) (.var 12))) [13]) (.k (.int (0)))))
 (.cons (.ret (.tup (.cons false (.tup (.cons false (.var 5) (.cons false (.op .add (.var 6) (.tup (.cons false (.var 9) .nil))) .nil))) (.cons false (.k (.bl true)) (.cons false (.call (x.f n_l_equal) (.cons false (.meth (x.c c_Plan) (x.f n_Plan_take) (.var 1) .nil) (.cons false (.var 9) .nil))) .nil)))))
 .nil))))))))
def d_l_step (x : Ix) : Fd := ⟨5, 14, b_l_step x⟩
-- l_step 0:d 1:plan 2:things 3:lots_here 4:now 5:weights_here 6:row 7:some 8:kind 9:thing 10:weight 11:later 12:most 13:one
def b_law_k12 (x : Ix) : Ss := (.cons (.set 1 true (.call (x.f n_l_random) (.cons false (.var 0) (.cons false (.k (.int (1812))) .nil))))
 (.cons (.set 2 false (.op .add (.k (.int (1))) (.call (x.f n_l_below) (.cons false (.var 1) (.cons false (.k (.int (5))) .nil)))))
 (.cons (.par 3 false 4 false (.call (x.f n_l_lots) (.cons false (.var 1) (.cons false (.var 2) .nil))) (.call (x.f n_l_weights) (.cons false (.var 1) (.cons false (.var 2) .nil))))
 (.cons (.set 5 true (.mk (x.c c_Plan) (.cons false (.mk (x.c c_Kind) (.cons false (.var 2) (.cons false (.var 3) .nil))) (.cons false (.var 4) .nil))))
 (.cons (.par3 6 true 7 false 8 true (.lst .nil) (.tup (.cons false (.var 4) (.cons false (.tup .nil) .nil))) (.lst .nil))
 (.cons (.ite (.or (.not (.op .eq (.prop (x.c c_Plan) (x.f n_Plan_kind) (.var 5)) (.mk (x.c c_Kind) (.cons false (.var 2) (.cons false (.var 3) .nil))))) (.not (.call (x.f n_l_stands) (.cons false (.var 5) (.cons false (.var 2) (.cons false (.var 3) (.cons false (.var 7) (.cons false (.k (.int (0))) .nil)))))))) (.cons (.ret (.k (.bl false)))
 .nil) .nil)
 (.cons (.for_ (.one 9) (.range1 (.call (x.f n_l_below) (.cons false (.var 1) (.cons false (.k (.int (15))) .nil)))) (.cons (.set 10 false (.call (x.f n_l_below) (.cons false (.var 1) (.cons false (.k (.int (6))) .nil))))
 (.cons (.ite (.op .eq (.var 10) (.k (.int (0)))) (.cons (.ite (.not (.call (x.f n_l_equal) (.cons false (.meth (x.c c_Plan) (x.f n_Plan_undo) (.var 5) .nil) (.cons false (.op .ne (.var 6) (.lst .nil)) .nil)))) (.cons (.ret (.k (.bl false)))
 .nil) .nil)
 (.cons (.ite (.op .ne (.var 6) (.lst .nil)) (.cons (.par 8 true 7 false (.op .add (.var 8) (.lst (.cons false (.var 7) .nil))) (.pop (.var 6)))
 .nil) .nil)
 .nil)) (.cons (.ite (.op .eq (.var 10) (.k (.int (1)))) (.cons (.ite (.not (.call (x.f n_l_equal) (.cons false (.meth (x.c c_Plan) (x.f n_Plan_redo) (.var 5) .nil) (.cons false (.op .ne (.var 8) (.lst .nil)) .nil)))) (.cons (.ret (.k (.bl false)))
 .nil) .nil)
 (.cons (.ite (.op .ne (.var 8) (.lst .nil)) (.cons (.par 6 true 7 false (.op .add (.var 6) (.lst (.cons false (.var 7) .nil))) (.pop (.var 8)))
 .nil) .nil)
 .nil)) (.cons (.unp [11, 12, 13] (.call (x.f n_l_step) (.cons false (.var 1) (.cons false (.var 5) (.cons false (.var 2) (.cons false (.var 3) (.cons false (.var 7) .nil)))))))
 (.cons (.ite (.not (.var 13)) (.cons (.ret (.k (.bl false)))
 .nil) .nil)
 (.cons (.ite (.var 12) (.cons (.par3 6 true 7 false 8 true (.op .add (.var 6) (.lst (.cons false (.var 7) .nil))) (.var 11) (.lst .nil))
 .nil) .nil)
 .nil))))
 .nil))
 (.cons (.ite (.not (.call (x.f n_l_stands) (.cons false (.var 5) (.cons false (.var 2) (.cons false (.var 3) (.cons false (.var 7) (.cons false (.bi .len (.cons false (.var 6) .nil)) .nil))))))) (.cons (.ret (.k (.bl false)))
 .nil) .nil)
 .nil))))
 (.cons (.ret (.k (.bl true)))
 .nil))))))))
def d_law_k12 (x : Ix) : Fd := ⟨1, 14, b_law_k12 x⟩
-- law_k12 0:script 1:d 2:things 3:lots_here 4:weights_here 5:plan 6:past 7:now 8:later 9:turn 10:kind 11:told 12:is_step 13:is_right
def b_l_made (x : Ix) : Ss := (.cons (.set 2 false (.k (.bl false)))
 (.cons (.try_ (.cons (.ex (.mk (x.c c_Plan) (.cons false (.var 0) (.cons false (.var 1) .nil))))
 .nil) [⟨(x.c c_BadWeights), none, (.set 2 (.k (.bl true)))⟩])
 (.cons (.ret (.var 2))
 .nil)))
def d_l_made (x : Ix) : Fd := ⟨2, 3, b_l_made x⟩
-- l_made 0:kind 1:weights_here 2:found
def b_l_told_k13 (x : Ix) : Ss := (.cons (.set 4 false (.k (.str [])))
 (.cons (.try_ (.cons (.ite (.op .eq (.var 1) (.k (.str [112, 117, 116]))) (.cons (.ex (.meth (x.c c_Plan) (x.f n_Plan_put) (.var 0) (.cons false (.var 2) .nil)))
 .nil) (.cons (.ex (.meth (x.c c_Plan) (x.f n_Plan_weigh) (.var 0) (.cons false (.var 2) (.cons false (.var 3) .nil))))
 .nil))
 .nil) [⟨(x.c c_BadThing), none, (.set 4 (.k (.str [116, 104, 105, 110, 103])))⟩, ⟨(x.c c_BadWeights), none, (.set 4 (.k (.str [119, 101, 105, 103, 104, 116, 115])))⟩])
 (.cons (.ret (.var 4))
 .nil)))
def d_l_told_k13 (x : Ix) : Fd := ⟨4, 5, b_l_told_k13 x⟩
-- l_told_k13 0:plan 1:way 2:thing 3:weight 4:found
def b_law_k13 (x : Ix) : Ss := (.cons (.set 1 true (.call (x.f n_l_random) (.cons false (.var 0) (.cons false (.k (.int (1813))) .nil))))
 (.cons (.set 2 false (.op .add (.k (.int (1))) (.call (x.f n_l_below) (.cons false (.var 1) (.cons false (.k (.int (5))) .nil)))))
 (.cons (.par 3 false 4 false (.call (x.f n_l_lots) (.cons false (.var 1) (.cons false (.var 2) .nil))) (.call (x.f n_l_weights) (.cons false (.var 1) (.cons false (.var 2) .nil))))
 (.cons (.set 5 false (.mk (x.c c_Kind) (.cons false (.var 2) (.cons false (.var 3) .nil))))
 (.cons (.for_ (.one 6) (.e (.lst (.cons false (.k .non) (.cons false (.bi .list (.cons false (.var 4) .nil)) (.cons false (.slice (.var 4) (.yes (.k (.int (1)))) .no) (.cons false (.op .add (.var 4) (.tup (.cons false (.k (.int (1))) .nil))) (.cons false (.op .add (.tup (.cons false (.k (.int (100))) .nil)) (.slice (.var 4) (.yes (.k (.int (1)))) .no)) (.cons false (.op .add (.tup (.cons false (.k (.bl true)) .nil)) (.slice (.var 4) (.yes (.k (.int (1)))) .no)) (.cons false (.k (.int (3))) .nil))))))))) (.cons (.ite (.not (.call (x.f n_l_made) (.cons false (.var 5) (.cons false (.var 6) .nil)))) (.cons (.ret (.k (.bl false)))
 .nil) .nil)
 .nil))
 (.cons (.set 7 true (.mk (x.c c_Plan) (.cons false (.var 5) (.cons false (.var 4) .nil))))
 (.cons (.for_ (.one 6) (.e (.lst (.cons false (.k .non) (.cons false (.neg (.k (.int (1)))) (.cons false (.var 2) (.cons false (.k (.str [48])) (.cons false (.k (.bl true)) (.cons false (.k (.bl false)) (.cons false (.tup (.cons false (.k (.int (0))) .nil)) .nil))))))))) (.cons (.ite (.or (.op .ne (.call (x.f n_l_told_k13) (.cons false (.var 7) (.cons false (.k (.str [112, 117, 116])) (.cons false (.var 6) (.cons false (.k .non) .nil))))) (.k (.str [116, 104, 105, 110, 103]))) (.op .ne (.call (x.f n_l_told_k13) (.cons false (.var 7) (.cons false (.k (.str [119, 101, 105, 103, 104])) (.cons false (.var 6) (.cons false (.k .non) .nil))))) (.k (.str [116, 104, 105, 110, 103])))) (.cons (.ret (.k (.bl false)))
 .nil) .nil)
 .nil))
 (.cons (.for_ (.one 6) (.e (.lst (.cons false (.k .non) (.cons false (.k (.int (100))) (.cons false (.neg (.k (.int (100)))) (.cons false (.k (.str [48])) (.cons false (.k (.bl true)) (.cons false (.tup (.cons false (.k (.int (0))) .nil)) .nil)))))))) (.cons (.ite (.op .ne (.call (x.f n_l_told_k13) (.cons false (.var 7) (.cons false (.k (.str [119, 101, 105, 103, 104])) (.cons false (.op .sub (.var 2) (.k (.int (1)))) (.cons false (.var 6) .nil))))) (.k (.str [119, 101, 105, 103, 104, 116, 115]))) (.cons (.ret (.k (.bl false)))
 .nil) .nil)
 .nil))
 (.cons (.set 8 false (.comp (.var 10) (.one 10) (.range1 (.var 2)) (.yes (.op .nmem (.tup (.cons false (.var 10) .nil)) (.var 3))) [10]))
 (.cons (.ite (.and (.op .ne (.var 8) (.lst .nil)) (.op .ne (.call (x.f n_l_told_k13) (.cons false (.var 7) (.cons false (.k (.str [112, 117, 116])) (.cons false (.sub (.var 8) (.k (.int (0)))) (.cons false (.k .non) .nil))))) (.k (.str [116, 104, 105, 110, 103])))) (.cons (.ret (.k (.bl false)))
 .nil) .nil)
 (.cons (.ite (.or (.op .ne (.bi .len (.cons false (.var 7) .nil)) (.k (.int (0)))) (.or (.meth (x.c c_Plan) (x.f n_Plan_undo) (.var 7) .nil) (.or (.meth (x.c c_Plan) (x.f n_Plan_redo) (.var 7) .nil) (.not (.call (x.f n_l_equal) (.cons false (.prop (x.c c_Plan) (x.f n_Plan_weights) (.var 7)) (.cons false (.var 4) .nil))))))) (.cons (.ret (.k (.bl false)))
 .nil) .nil)
 (.cons (.set 9 false (.call (x.f n_l_added) (.cons false (.var 2) (.cons false (.var 3) (.cons false (.tup .nil) .nil)))))
 (.cons (.ite (.op .eq (.var 9) (.lst .nil)) (.cons (.ret (.and (.isN (.meth (x.c c_Plan) (x.f n_Plan_take) (.var 7) .nil)) (.op .eq (.bi .len (.cons false (.var 7) .nil)) (.k (.int (0))))))
 .nil) .nil)
 (.cons (.ite (.or (.op .ne (.call (x.f n_l_told_k13) (.cons false (.var 7) (.cons false (.k (.str [112, 117, 116])) (.cons false (.sub (.var 9) (.k (.int (0)))) (.cons false (.k .non) .nil))))) (.k (.str []))) (.op .ne (.call (x.f n_l_told_k13) (.cons false (.var 7) (.cons false (.k (.str [112, 117, 116])) (.cons false (.sub (.var 9) (.k (.int (0)))) (.cons false (.k .non) .nil))))) (.k (.str [116, 104, 105, 110, 103])))) (.cons (.ret (.k (.bl false)))
 .nil) .nil)
 (.cons (.ite (.or (.not (.call (x.f n_l_equal) (.cons false (.prop (x.c c_Plan) (x.f n_Plan_row) (.var 7)) (.cons false (.tup (.cons false (.sub (.var 9) (.k (.int (0)))) .nil)) .nil)))) (.notB (.meth (x.c c_Plan) (x.f n_Plan_undo) (.var 7) .nil) true)) (.cons (.ret (.k (.bl false)))
 .nil) .nil)
 (.cons (.ite (.or (.op .ne (.call (x.f n_l_told_k13) (.cons false (.var 7) (.cons false (.k (.str [112, 117, 116])) (.cons false (.var 2) (.cons false (.k .non) .nil))))) (.k (.str [116, 104, 105, 110, 103]))) (.op .ne (.call (x.f n_l_told_k13) (.cons false (.var 7) (.cons false (.k (.str [119, 101, 105, 103, 104])) (.cons false (.k (.int (0))) (.cons false (.k (.int (100))) .nil))))) (.k (.str [119, 101, 105, 103, 104, 116, 115])))) (.cons (.ret (.k (.bl false)))
 .nil) .nil)
 (.cons (.ret (.and (.isB (.meth (x.c c_Plan) (x.f n_Plan_redo) (.var 7) .nil) true) (.and (.call (x.f n_l_equal) (.cons false (.prop (x.c c_Plan) (x.f n_Plan_row) (.var 7)) (.cons false (.tup (.cons false (.sub (.var 9) (.k (.int (0)))) .nil)) .nil))) (.not (.meth (x.c c_Plan) (x.f n_Plan_redo) (.var 7) .nil)))))
 .nil)))))))))))))))))
def d_law_k13 (x : Ix) : Fd := ⟨1, 11, b_law_k13 x⟩
-- law_k13 0:script 1:d 2:things 3:lots_here 4:weights_here 5:kind 6:value 7:plan 8:closed 9:some 10:thing
def b_l_lines (x : Ix) : Ss := (.cons (.set 2 true (.lst (.cons false (.op .add (.k (.str [116, 104, 105, 110, 103, 115, 32])) (.bi .str (.cons false (.var 0) .nil))) .nil)))
 (.cons (.for_ (.one 3) (.e (.bi .sorted (.cons false (.var 1) .nil))) (.cons (.ite (.op .ne (.var 3) (.tup .nil)) (.cons (.ex (.app (.var 2) (.op .add (.k (.str [108, 111, 116, 32])) (.bi .join (.cons false (.k (.str [32])) (.cons false (.comp (.bi .str (.cons false (.var 4) .nil)) (.one 4) (.e (.var 3)) .no [4]) .nil))))))
 .nil) .nil)
 .nil))
 (.cons (.ret (.var 2))
 .nil)))
def d_l_lines (x : Ix) : Fd := ⟨2, 5, b_l_lines x⟩
-- l_lines 0:things 1:lots_here 2:found 3:lot 4:thing
def b_law_k14 (x : Ix) : Ss := (.cons (.set 1 true (.call (x.f n_l_random) (.cons false (.var 0) (.cons false (.k (.int (1814))) .nil))))
 (.cons (.set 2 true (.lst .nil))
 (.cons (.for_ (.one 3) (.range1 (.k (.int (4)))) (.cons (.set 4 false (.op .add (.k (.int (1))) (.call (x.f n_l_below) (.cons false (.var 1) (.cons false (.k (.int (5))) .nil)))))
 (.cons (.set 5 false (.call (x.f n_l_lots) (.cons false (.var 1) (.cons false (.var 4) .nil))))
 (.cons (.par 6 false 7 false (.mk (x.c c_Kind) (.cons false (.var 4) (.cons false (.var 5) .nil))) (.bi .join (.cons false (.k (.str [10])) (.cons false (.call (x.f n_l_lines) (.cons false (.var 4) (.cons false (.var 5) .nil))) .nil))))
 (.cons (.ite (.not (.call (x.f n_l_equal) (.cons false (.call (x.f n_write) (.cons false (.var 6) .nil)) (.cons false (.var 7) .nil)))) (.cons (.ret (.k (.bl false)))
 .nil) .nil)
 (.cons (.set 8 false (.call (x.f n_read) (.cons false (.var 7) .nil)))
 (.cons (.ite (.or (.not (.call (x.f n_l_equal) (.cons false (.prop (x.c c_Kind) (x.f n_Kind_lots) (.var 8)) (.cons false (.bi .tuple (.cons false (.bi .sorted (.cons false (.var 5) .nil)) .nil)) .nil)))) (.or (.not (.call (x.f n_l_equal) (.cons false (.prop (x.c c_Kind) (x.f n_Kind_things) (.var 8)) (.cons false (.var 4) .nil)))) (.not (.op .eq (.var 8) (.var 6))))) (.cons (.ret (.k (.bl false)))
 .nil) .nil)
 (.cons (.for_ (.two 9 10) (.e (.var 2)) (.cons (.ite (.op .ne (.op .eq (.var 9) (.var 6)) (.op .eq (.var 10) (.var 7))) (.cons (.ret (.k (.bl false)))
 .nil) .nil)
 .nil))
 (.cons (.ex (.app (.var 2) (.tup (.cons false (.var 6) (.cons false (.var 7) .nil)))))
 .nil)))))))))
 (.cons (.ret (.k (.bl true)))
 .nil))))
def d_law_k14 (x : Ix) : Fd := ⟨1, 11, b_law_k14 x⟩
-- law_k14 0:script 1:d 2:texts 3:turn 4:things 5:lots_here 6:kind 7:text 8:told 9:other 10:old
def b_l_number (x : Ix) : Ss := (.cons (.ite (.or (.op .ne (.bi .len (.cons false (.var 0) .nil)) (.k (.int (1)))) (.op .nmem (.var 0) (.k (.str [48, 49, 50, 51, 52, 53, 54, 55, 56, 57])))) (.cons (.ret (.k .non))
 .nil) .nil)
 (.cons (.ret (.ite (.chain .le .le (.var 1) (.bi .int (.cons false (.var 0) .nil)) (.var 2)) (.bi .int (.cons false (.var 0) .nil)) (.k .non)))
 .nil))
def d_l_number (x : Ix) : Fd := ⟨3, 3, b_l_number x⟩
-- l_number 0:word 1:low 2:high
def b_l_first_line (x : Ix) : Ss := (.cons (.ite (.op .ne (.sub (.var 0) (.k (.int (0)))) (.k (.str [116, 104, 105, 110, 103, 115]))) (.cons (.ret (.k (.int (0))))
 .nil) .nil)
 (.cons (.ite (.or (.op .lt (.bi .len (.cons false (.var 0) .nil)) (.k (.int (2)))) (.isN (.call (x.f n_l_number) (.cons false (.sub (.var 0) (.k (.int (1)))) (.cons false (.k (.int (1))) (.cons false (.k (.int (5))) .nil)))))) (.cons (.ret (.k (.int (1))))
 .nil) .nil)
 (.cons (.ret (.ite (.op .gt (.bi .len (.cons false (.var 0) .nil)) (.k (.int (2)))) (.k (.int (2))) (.k .non)))
 .nil)))
def d_l_first_line (x : Ix) : Fd := ⟨1, 1, b_l_first_line x⟩
-- l_first_line 0:words
def b_l_lot_line (x : Ix) : Ss := (.cons (.ite (.op .ne (.sub (.var 0) (.k (.int (0)))) (.k (.str [108, 111, 116]))) (.cons (.ret (.tup (.cons false (.k (.int (0))) (.cons false (.tup .nil) .nil))))
 .nil) .nil)
 (.cons (.set 3 false (.tup .nil))
 (.cons (.for_ (.one 4) (.range2 (.k (.int (1))) (.bi .len (.cons false (.var 0) .nil))) (.cons (.set 5 false (.call (x.f n_l_number) (.cons false (.sub (.var 0) (.var 4)) (.cons false (.ite (.op .ne (.var 3) (.tup .nil)) (.op .add (.sub (.var 3) (.neg (.k (.int (1))))) (.k (.int (1)))) (.k (.int (0)))) (.cons false (.op .sub (.var 1) (.k (.int (1)))) .nil)))))
 (.cons (.ite (.isN (.var 5)) (.cons (.ret (.tup (.cons false (.var 4) (.cons false (.tup .nil) .nil))))
 .nil) .nil)
 (.cons (.set 3 false (.op .add (.var 3) (.tup (.cons false (.var 5) .nil))))
 .nil))))
 (.cons (.ite (.op .eq (.var 3) (.tup .nil)) (.cons (.ret (.tup (.cons false (.k (.int (1))) (.cons false (.tup .nil) .nil))))
 .nil) .nil)
 (.cons (.ret (.tup (.cons false (.ite (.op .le (.var 3) (.var 2)) (.k (.int (0))) (.k .non)) (.cons false (.var 3) .nil))))
 .nil)))))
def d_l_lot_line (x : Ix) : Fd := ⟨3, 6, b_l_lot_line x⟩
-- l_lot_line 0:words 1:things 2:last 3:lot 4:k 5:number_here
def b_l_wrong (x : Ix) : Ss := (.cons (.set 1 false (.comp (.bi .split (.cons false (.var 6) (.cons false (.k (.str [32])) .nil))) (.one 6) (.e (.bi .split (.cons false (.var 0) (.cons false (.k (.str [10])) .nil)))) .no [6]))
 (.cons (.par 2 false 3 false (.call (x.f n_l_first_line) (.cons false (.sub (.var 1) (.k (.int (0)))) .nil)) (.tup .nil))
 (.cons (.ite (.notN (.var 2)) (.cons (.ret (.tup (.cons false (.k (.int (0))) (.cons false (.var 2) .nil))))
 .nil) .nil)
 (.cons (.for_ (.one 4) (.range2 (.k (.int (1))) (.bi .len (.cons false (.var 1) .nil))) (.cons (.unp [2, 5] (.call (x.f n_l_lot_line) (.cons false (.sub (.var 1) (.var 4)) (.cons false (.bi .int (.cons false (.sub (.sub (.var 1) (.k (.int (0)))) (.k (.int (1)))) .nil)) (.cons false (.var 3) .nil)))))
 (.cons (.ite (.notN (.var 2)) (.cons (.ret (.tup (.cons false (.var 4) (.cons false (.var 2) .nil))))
 .nil) .nil)
 (.cons (.set 3 false (.var 5))
 .nil))))
 (.cons (.ret (.k .non))
 .nil)))))
def d_l_wrong (x : Ix) : Fd := ⟨1, 7, b_l_wrong x⟩
-- l_wrong 0:text 1:lines_here 2:word 3:last 4:at 5:lot 6:line
def b_l_spoilt (x : Ix) : Ss := (.cons (.par 2 false 3 false (.call (x.f n_l_below) (.cons false (.var 0) (.cons false (.bi .len (.cons false (.var 1) .nil)) .nil))) (.call (x.f n_l_below) (.cons false (.var 0) (.cons false (.k (.int (7))) .nil))))
 (.cons (.par 4 false 5 false (.sub (.var 1) (.var 2)) (.call (x.f n_l_below) (.cons false (.var 0) (.cons false (.op .add (.bi .len (.cons false (.var 1) .nil)) (.k (.int (1)))) .nil))))
 (.cons (.set 6 false (.lst (.cons false (.k (.str [])) (.cons false (.k (.str [108, 111, 116])) (.cons false (.k (.str [108, 111, 116, 32])) (.cons false (.k (.str [116, 104, 105, 110, 103, 115])) (.cons false (.k (.str [116, 104, 105, 110, 103, 115, 32, 51])) (.cons false (.k (.str [116, 104, 105, 110, 103, 115, 32, 54])) (.cons false (.k (.str [108, 111, 116, 32, 48])) (.cons false (.k (.str [108, 111, 116, 32, 49, 32, 48])) (.cons false (.k (.str [108, 111, 116, 32, 48, 32, 48])) (.cons false (.k (.str [108, 111, 116, 32, 48, 48])) (.cons false (.k (.str [108, 111, 116, 32, 57])) .nil)))))))))))))
 (.cons (.set 6 false (.op .add (.var 6) (.lst (.cons false (.k (.str [108, 111, 116, 32, 32, 48])) (.cons false (.k (.str [108, 111, 116, 115, 32, 48])) (.cons false (.k (.str [108, 111, 116, 32, 97])) (.cons false (.k (.str [116, 104, 105, 110, 103, 115, 32, 50, 32, 50])) (.cons false (.k (.str [108, 111, 116, 32, 48, 32, 49])) (.cons false (.k (.str [108, 111, 116, 32, 45, 49])) (.cons false (.k (.str [108, 111, 116, 32, 52])) .nil))))))))))
 (.cons (.ite (.op .eq (.var 3) (.k (.int (0)))) (.cons (.ret (.op .add (.slice (.var 1) .no (.yes (.var 2))) (.slice (.var 1) (.yes (.op .add (.var 2) (.k (.int (1))))) .no)))
 .nil) .nil)
 (.cons (.ite (.op .eq (.var 3) (.k (.int (1)))) (.cons (.ret (.op .add (.op .add (.slice (.var 1) .no (.yes (.var 5))) (.lst (.cons false (.var 4) .nil))) (.slice (.var 1) (.yes (.var 5)) .no)))
 .nil) .nil)
 (.cons (.ite (.op .eq (.var 3) (.k (.int (2)))) (.cons (.set 7 false (.op .add (.slice (.var 1) .no (.yes (.var 2))) (.slice (.var 1) (.yes (.op .add (.var 2) (.k (.int (1))))) .no)))
 (.cons (.ret (.op .add (.op .add (.slice (.var 7) .no (.yes (.var 5))) (.lst (.cons false (.var 4) .nil))) (.slice (.var 7) (.yes (.var 5)) .no)))
 .nil)) .nil)
 (.cons (.ite (.op .eq (.var 3) (.k (.int (3)))) (.cons (.ret (.op .add (.op .add (.slice (.var 1) .no (.yes (.var 5))) (.lst (.cons false (.call (x.f n_l_pick) (.cons false (.var 0) (.cons false (.var 6) .nil))) .nil))) (.slice (.var 1) (.yes (.var 5)) .no)))
 .nil) .nil)
 (.cons (.ite (.op .eq (.var 3) (.k (.int (4)))) (.cons (.ret (.op .add (.op .add (.slice (.var 1) .no (.yes (.var 2))) (.lst (.cons false (.call (x.f n_l_pick) (.cons false (.var 0) (.cons false (.var 6) .nil))) .nil))) (.slice (.var 1) (.yes (.op .add (.var 2) (.k (.int (1))))) .no)))
 .nil) .nil)
 (.cons (.set 8 false (.call (x.f n_l_below) (.cons false (.var 0) (.cons false (.op .add (.bi .len (.cons false (.var 4) .nil)) (.k (.int (1)))) .nil))))
 (.cons (.set 9 false (.call (x.f n_l_pick) (.cons false (.var 0) (.cons false (.op .add (.bi .list (.cons false (.k (.str [32, 48, 49, 50, 55, 97, 116])) .nil)) (.lst (.cons false (.k (.str [])) .nil))) .nil))))
 (.cons (.set 4 false (.op .add (.op .add (.slice (.var 4) .no (.yes (.var 8))) (.var 9)) (.slice (.var 4) (.yes (.op .add (.var 8) (.call (x.f n_l_below) (.cons false (.var 0) (.cons false (.k (.int (2))) .nil))))) .no)))
 (.cons (.ret (.op .add (.op .add (.slice (.var 1) .no (.yes (.var 2))) (.lst (.cons false (.var 4) .nil))) (.slice (.var 1) (.yes (.op .add (.var 2) (.k (.int (1))))) .no)))
 .nil)))))))))))))
def d_l_spoilt (x : Ix) : Fd := ⟨2, 10, b_l_spoilt x⟩
-- l_spoilt 0:d 1:lines_here 2:at 3:kind 4:line 5:to 6:strange 7:rest 8:spot 9:sign
def b_l_told_k15 (x : Ix) : Ss := (.cons (.set 1 false (.k .non))
 (.cons (.try_ (.cons (.ex (.call (x.f n_read) (.cons false (.var 0) .nil)))
 .nil) [⟨(x.c c_BadLine), some 2, (.set 1 (.pair (.fld 0) (.fld 1)))⟩])
 (.cons (.ret (.var 1))
 .nil)))
def d_l_told_k15 (x : Ix) : Fd := ⟨1, 3, b_l_told_k15 x⟩
-- l_told_k15 0:text 1:found 2:e
def b_law_k15 (x : Ix) : Ss := (.cons (.set 1 true (.call (x.f n_l_random) (.cons false (.var 0) (.cons false (.k (.int (1815))) .nil))))
 (.cons (.for_ (.one 2) (.range1 (.k (.int (5)))) (.cons (.set 3 false (.op .add (.k (.int (1))) (.call (x.f n_l_below) (.cons false (.var 1) (.cons false (.k (.int (5))) .nil)))))
 (.cons (.set 4 false (.bi .join (.cons false (.k (.str [10])) (.cons false (.call (x.f n_l_spoilt) (.cons false (.var 1) (.cons false (.call (x.f n_l_lines) (.cons false (.var 3) (.cons false (.call (x.f n_l_lots) (.cons false (.var 1) (.cons false (.var 3) .nil))) .nil))) .nil))) .nil))))
 (.cons (.set 5 false (.call (x.f n_l_wrong) (.cons false (.var 4) .nil)))
 (.cons (.ite (.or (.op .ne (.call (x.f n_l_told_k15) (.cons false (.var 4) .nil)) (.var 5)) (.and (.isN (.var 5)) (.op .ne (.call (x.f n_write) (.cons false (.call (x.f n_read) (.cons false (.var 4) .nil)) .nil)) (.var 4)))) (.cons (.ret (.k (.bl false)))
 .nil) .nil)
 .nil)))))
 (.cons (.for_ (.one 6) (.e (.lst (.cons false (.k .non) (.cons false (.k (.int (3))) (.cons false (.k (.bl true)) (.cons false (.lst .nil) (.cons false (.tup .nil) (.cons false (.dnew .nil) (.cons false (.lst (.cons false (.k (.str [116, 104, 105, 110, 103, 115, 32, 49])) .nil)) .nil))))))))) (.cons (.ite (.op .ne (.call (x.f n_l_told_k15) (.cons false (.var 6) .nil)) (.tup (.cons false (.k .non) (.cons false (.k .non) .nil)))) (.cons (.ret (.k (.bl false)))
 .nil) .nil)
 .nil))
 (.cons (.ite (.or (.op .ne (.call (x.f n_l_told_k15) (.cons false (.k (.str [])) .nil)) (.tup (.cons false (.k (.int (0))) (.cons false (.k (.int (0))) .nil)))) (.or (.op .ne (.call (x.f n_l_told_k15) (.cons false (.k (.str [116, 104, 105, 110, 103, 115])) .nil)) (.tup (.cons false (.k (.int (0))) (.cons false (.k (.int (1))) .nil)))) (.op .ne (.call (x.f n_l_told_k15) (.cons false (.k (.str [116, 104, 105, 110, 103, 115, 32, 51, 10])) .nil)) (.tup (.cons false (.k (.int (1))) (.cons false (.k (.int (0))) .nil)))))) (.cons (.ret (.k (.bl false)))
 .nil) .nil)
 (.cons (.ret (.and (.op .eq (.call (x.f n_l_told_k15) (.cons false (.k (.str [116, 104, 105, 110, 103, 115, 32, 51, 10, 108, 111, 116, 32, 49, 10, 108, 111, 116, 32, 48, 32, 50])) .nil)) (.tup (.cons false (.k (.int (2))) (.cons false (.k (.int (0))) .nil)))) (.isN (.call (x.f n_l_told_k15) (.cons false (.k (.str [116, 104, 105, 110, 103, 115, 32, 51])) .nil)))))
 .nil)))))
def d_law_k15 (x : Ix) : Fd := ⟨1, 7, b_law_k15 x⟩
-- law_k15 0:script 1:d 2:turn 3:things 4:text 5:due 6:value
def b_l_one (x : Ix) : Ss := (.cons (.par 1 false 2 false (.call (x.f n_l_pick) (.cons false (.var 0) (.cons false (.lst (.cons false (.k (.int (0))) (.cons false (.neg (.k (.int (1)))) (.cons false (.k .non) (.cons false (.k (.str [97])) (.cons false (.tup .nil) .nil)))))) .nil))) (.call (x.f n_l_below) (.cons false (.var 0) (.cons false (.k (.int (5))) .nil))))
 (.cons (.set 3 false (.call (x.f n_l_pick) (.cons false (.var 0) (.cons false (.lst (.cons false (.k (.int (0))) (.cons false (.k (.int (2))) (.cons false (.k .non) .nil)))) .nil))))
 (.cons (.ite (.op .eq (.var 2) (.k (.int (0)))) (.cons (.set 4 false (.xmk (x.c c_BadLots) (.cons false (.var 1) .nil)))
 (.cons (.ret (.tup (.cons false (.var 4) (.cons false (.op .eq (.xfld 0 (.var 4)) (.var 1)) .nil))))
 .nil)) .nil)
 (.cons (.ite (.op .eq (.var 2) (.k (.int (1)))) (.cons (.set 4 false (.xmk (x.c c_BadLines) (.cons false (.var 1) .nil)))
 (.cons (.ret (.tup (.cons false (.var 4) (.cons false (.op .eq (.xfld 0 (.var 4)) (.var 1)) .nil))))
 .nil)) .nil)
 (.cons (.ite (.op .eq (.var 2) (.k (.int (2)))) (.cons (.set 4 false (.xmk (x.c c_BadPairs) (.cons false (.var 1) .nil)))
 (.cons (.ret (.tup (.cons false (.var 4) (.cons false (.op .eq (.xfld 0 (.var 4)) (.var 1)) .nil))))
 .nil)) .nil)
 (.cons (.ite (.op .eq (.var 2) (.k (.int (3)))) (.cons (.set 4 false (.xmk (x.c c_BadSeen) (.cons false (.var 1) .nil)))
 (.cons (.ret (.tup (.cons false (.var 4) (.cons false (.op .eq (.xfld 0 (.var 4)) (.var 1)) .nil))))
 .nil)) .nil)
 (.cons (.set 4 false (.xmk (x.c c_BadLine) (.cons false (.var 1) (.cons false (.var 3) .nil))))
 (.cons (.ret (.tup (.cons false (.var 4) (.cons false (.and (.op .eq (.xfld 0 (.var 4)) (.var 1)) (.op .eq (.xfld 1 (.var 4)) (.var 3))) .nil))))
 .nil))))))))
def d_l_one (x : Ix) : Fd := ⟨1, 5, b_l_one x⟩
-- l_one 0:d 1:one_here 2:kind 3:two 4:error
def b_l_classes (x : Ix) : Ss := (.cons (.set 1 false (.lst .nil))
 (.cons (.set 1 false (.op .add (.var 1) (.lst (.cons false (.bi (.isT (.exc (x.c c_BadLine)) x.obs) (.cons false (.var 0) .nil)) (.cons false (.bi (.isT (.exc (x.c c_BadLines)) x.obs) (.cons false (.var 0) .nil)) (.cons false (.bi (.isT (.exc (x.c c_BadLot)) x.obs) (.cons false (.var 0) .nil)) .nil))))))
 (.cons (.set 1 false (.op .add (.var 1) (.lst (.cons false (.bi (.isT (.exc (x.c c_BadLots)) x.obs) (.cons false (.var 0) .nil)) (.cons false (.bi (.isT (.exc (x.c c_BadMost)) x.obs) (.cons false (.var 0) .nil)) (.cons false (.bi (.isT (.exc (x.c c_BadPairs)) x.obs) (.cons false (.var 0) .nil)) .nil))))))
 (.cons (.set 1 false (.op .add (.var 1) (.lst (.cons false (.bi (.isT (.exc (x.c c_BadPlaces)) x.obs) (.cons false (.var 0) .nil)) (.cons false (.bi (.isT (.exc (x.c c_BadRoot)) x.obs) (.cons false (.var 0) .nil)) (.cons false (.bi (.isT (.exc (x.c c_BadSeen)) x.obs) (.cons false (.var 0) .nil)) .nil))))))
 (.cons (.set 1 false (.op .add (.var 1) (.lst (.cons false (.bi (.isT (.exc (x.c c_BadThing)) x.obs) (.cons false (.var 0) .nil)) (.cons false (.bi (.isT (.exc (x.c c_BadThings)) x.obs) (.cons false (.var 0) .nil)) (.cons false (.bi (.isT (.exc (x.c c_BadWeights)) x.obs) (.cons false (.var 0) .nil)) .nil))))))
 (.cons (.set 1 false (.op .add (.var 1) (.lst (.cons false (.bi (.isT (.exc (x.c c_BadWord)) x.obs) (.cons false (.var 0) .nil)) (.cons false (.bi (.isT (.exc (x.c c_TooMany)) x.obs) (.cons false (.var 0) .nil)) (.cons false (.bi (.isT (.exc (x.c c_Unlike)) x.obs) (.cons false (.var 0) .nil)) .nil))))))
 (.cons (.ret (.bi .len (.cons false (.comp (.var 2) (.one 2) (.e (.var 1)) (.yes (.var 2)) [2]) .nil)))
 .nil)))))))
def d_l_classes (x : Ix) : Fd := ⟨1, 3, b_l_classes x⟩
-- l_classes 0:error 1:found 2:one_here
def b_law_k16 (x : Ix) : Ss := (.cons (.set 1 true (.call (x.f n_l_random) (.cons false (.var 0) (.cons false (.k (.int (1816))) .nil))))
 (.cons (.for_ (.one 2) (.range1 (.k (.int (4)))) (.cons (.unp [3, 4] (.call (x.f n_l_one) (.cons false (.var 1) .nil)))
 (.cons (.ite (.or (.not (.var 4)) (.or (.op .ne (.call (x.f n_l_classes) (.cons false (.var 3) .nil)) (.k (.int (1)))) (.not (.bi (.isT (.exc (x.c c_GreedError)) x.obs) (.cons false (.var 3) .nil))))) (.cons (.ret (.k (.bl false)))
 .nil) .nil)
 (.cons (.ite (.not (.bi (.isT .exb x.obs) (.cons false (.var 3) .nil))) (.cons (.ret (.k (.bl false)))
 .nil) .nil)
 .nil))))
 (.cons (.set 5 false (.lst (.cons false (.xmk (x.c c_BadThings) .nil) (.cons false (.xmk (x.c c_BadLot) .nil) (.cons false (.xmk (x.c c_BadWeights) .nil) (.cons false (.xmk (x.c c_BadMost) .nil) (.cons false (.xmk (x.c c_BadPlaces) .nil) (.cons false (.xmk (x.c c_BadRoot) .nil) (.cons false (.xmk (x.c c_TooMany) .nil) .nil)))))))))
 (.cons (.set 5 false (.op .add (.var 5) (.lst (.cons false (.xmk (x.c c_BadThing) .nil) (.cons false (.xmk (x.c c_Unlike) .nil) (.cons false (.xmk (x.c c_BadWord) .nil) .nil))))))
 (.cons (.ret (.op .eq (.comp (.var 6) (.one 6) (.e (.var 5)) (.yes (.or (.op .ne (.call (x.f n_l_classes) (.cons false (.var 6) .nil)) (.k (.int (1)))) (.not (.bi (.isT (.exc (x.c c_GreedError)) x.obs) (.cons false (.var 6) .nil))))) [6]) (.lst .nil)))
 .nil)))))
def d_law_k16 (x : Ix) : Fd := ⟨1, 7, b_law_k16 x⟩
-- law_k16 0:script 1:d 2:turn 3:error 4:is_right 5:errors 6:one_here
def b_l_pick_kind (x : Ix) : Ss := (.cons (.ret (.mk (x.c c_Kind) (.cons false (.k (.int (3))) (.cons false (.tup (.cons false (.tup .nil) (.cons false (.tup (.cons false (.k (.int (0))) .nil)) (.cons false (.tup (.cons false (.k (.int (1))) .nil)) (.cons false (.tup (.cons false (.k (.int (2))) .nil)) (.cons false (.tup (.cons false (.k (.int (0))) (.cons false (.k (.int (1))) .nil))) .nil)))))) .nil))))
 .nil)
def d_l_pick_kind (x : Ix) : Fd := ⟨0, 0, b_l_pick_kind x⟩
-- l_pick_kind 
def b_l_kinds_told (x : Ix) : Ss := (.cons (.set 0 false (.mk (x.c c_Kind) (.cons false (.k (.int (3))) (.cons false (.tup (.cons false (.tup .nil) (.cons false (.tup (.cons false (.k (.int (0))) .nil)) (.cons false (.tup (.cons false (.k (.int (1))) .nil)) (.cons false (.tup (.cons false (.k (.int (0))) (.cons false (.k (.int (2))) .nil))) (.cons false (.tup (.cons false (.k (.int (1))) (.cons false (.k (.int (2))) .nil))) (.cons false (.tup (.cons false (.k (.int (0))) (.cons false (.k (.int (1))) (.cons false (.k (.int (2))) .nil)))) .nil))))))) .nil))))
 (.cons (.ite (.or (.op .ne (.call (x.f n_adding) (.cons false (.var 0) (.cons false (.tup .nil) .nil))) (.lst (.cons false (.k (.int (0))) (.cons false (.k (.int (1))) .nil)))) (.or (.op .ne (.call (x.f n_adding) (.cons false (.var 0) (.cons false (.tup (.cons false (.k (.int (0))) .nil)) .nil))) (.lst (.cons false (.k (.int (2))) .nil))) (.op .ne (.call (x.f n_full) (.cons false (.var 0) .nil)) (.lst (.cons false (.tup (.cons false (.k (.int (0))) (.cons false (.k (.int (1))) (.cons false (.k (.int (2))) .nil)))) .nil))))) (.cons (.ret (.k (.bl false)))
 .nil) .nil)
 (.cons (.ret (.and (.op .eq (.call (x.f n_built) (.cons false (.mk (x.c c_Kind) (.cons false (.k (.int (3))) (.cons false (.tup (.cons false (.tup .nil) (.cons false (.tup (.cons false (.k (.int (0))) .nil)) (.cons false (.tup (.cons false (.k (.int (1))) (.cons false (.k (.int (2))) .nil))) .nil)))) .nil))) .nil)) (.lst (.cons false (.tup .nil) (.cons false (.tup (.cons false (.k (.int (0))) .nil)) .nil)))) (.op .eq (.sub (.prop (x.c c_Kind) (x.f n_Kind_lots) (.var 0)) (.k (.int (2)))) (.tup (.cons false (.k (.int (0))) (.cons false (.k (.int (1))) (.cons false (.k (.int (2))) .nil)))))))
 .nil)))
def d_l_kinds_told (x : Ix) : Fd := ⟨0, 1, b_l_kinds_told x⟩
-- l_kinds_told 0:kind
def b_l_taking_told (x : Ix) : Ss := (.cons (.par 0 false 1 false (.call (x.f n_l_pick_kind) .nil) (.mk (x.c c_Kind) (.cons false (.k (.int (2))) (.cons false (.tup (.cons false (.tup .nil) (.cons false (.tup (.cons false (.k (.int (0))) .nil)) (.cons false (.tup (.cons false (.k (.int (1))) .nil)) .nil)))) .nil))))
 (.cons (.ite (.or (.op .ne (.call (x.f n_taken) (.cons false (.var 0) (.cons false (.tup (.cons false (.k (.int (1))) (.cons false (.k (.int (2))) (.cons false (.k (.int (3))) .nil)))) .nil))) (.tup (.cons false (.k (.int (2))) .nil))) (.op .ne (.call (x.f n_heaviest) (.cons false (.var 0) (.cons false (.tup (.cons false (.k (.int (1))) (.cons false (.k (.int (2))) (.cons false (.k (.int (3))) .nil)))) .nil))) (.tup (.cons false (.k (.int (3))) (.cons false (.lst (.cons false (.tup (.cons false (.k (.int (0))) (.cons false (.k (.int (1))) .nil))) (.cons false (.tup (.cons false (.k (.int (2))) .nil)) .nil))) .nil))))) (.cons (.ret (.k (.bl false)))
 .nil) .nil)
 (.cons (.ite (.or (.op .ne (.call (x.f n_heaviest) (.cons false (.var 0) (.cons false (.tup (.cons false (.k (.int (2))) (.cons false (.k (.int (2))) (.cons false (.k (.int (3))) .nil)))) .nil))) (.tup (.cons false (.k (.int (4))) (.cons false (.lst (.cons false (.tup (.cons false (.k (.int (0))) (.cons false (.k (.int (1))) .nil))) .nil)) .nil)))) (.or (.call (x.f n_always) (.cons false (.var 0) .nil)) (.isN (.call (x.f n_fooling) (.cons false (.var 0) .nil))))) (.cons (.ret (.k (.bl false)))
 .nil) .nil)
 (.cons (.ite (.or (.op .ne (.call (x.f n_richest) (.cons false (.var 0) (.cons false (.tup (.cons false (.k (.int (1))) (.cons false (.k (.int (2))) (.cons false (.k (.int (3))) .nil)))) .nil))) (.tup (.cons false (.k (.int (3))) (.cons false (.lst (.cons false (.tup (.cons false (.k (.int (2))) .nil)) .nil)) .nil)))) (.call (x.f n_always_least) (.cons false (.var 0) .nil))) (.cons (.ret (.k (.bl false)))
 .nil) .nil)
 (.cons (.ret (.and (.call (x.f n_always) (.cons false (.var 1) .nil)) (.and (.isN (.call (x.f n_fooling) (.cons false (.var 1) .nil))) (.and (.not (.call (x.f n_always) (.cons false (.mk (x.c c_Kind) (.cons false (.k (.int (2))) (.cons false (.tup (.cons false (.tup .nil) (.cons false (.tup (.cons false (.k (.int (0))) (.cons false (.k (.int (1))) .nil))) .nil))) .nil))) .nil))) (.call (x.f n_always_least) (.cons false (.var 1) .nil))))))
 .nil)))))
def d_l_taking_told (x : Ix) : Fd := ⟨0, 2, b_l_taking_told x⟩
-- l_taking_told 0:some 1:two
def b_l_conditions_told (x : Ix) : Ss := (.cons (.set 0 false (.call (x.f n_l_pick_kind) .nil))
 (.cons (.ite (.op .ne (.lst (.cons false (.call (x.f n_steps) (.cons false (.var 0) .nil)) (.cons false (.call (x.f n_extends) (.cons false (.var 0) .nil)) (.cons false (.call (x.f n_agrees) (.cons false (.var 0) .nil)) (.cons false (.call (x.f n_spreads) (.cons false (.var 0) .nil)) .nil))))) (.lst (.cons false (.k .non) (.cons false (.k .non) (.cons false (.k .non) (.cons false (.tup (.cons false (.tup (.cons false (.k (.int (2))) .nil)) (.cons false (.tup (.cons false (.k (.int (0))) (.cons false (.k (.int (1))) .nil))) .nil))) .nil)))))) (.cons (.ret (.k (.bl false)))
 .nil) .nil)
 (.cons (.ite (.or (.op .ne (.call (x.f n_steps) (.cons false (.mk (x.c c_Kind) (.cons false (.k (.int (3))) (.cons false (.tup (.cons false (.tup .nil) (.cons false (.tup (.cons false (.k (.int (0))) .nil)) (.cons false (.tup (.cons false (.k (.int (1))) (.cons false (.k (.int (2))) .nil))) .nil)))) .nil))) .nil)) (.tup (.cons false (.k (.int (1))) (.cons false (.k (.int (2))) .nil)))) (.op .ne (.call (x.f n_extends) (.cons false (.mk (x.c c_Kind) (.cons false (.k (.int (3))) (.cons false (.tup (.cons false (.tup .nil) (.cons false (.tup (.cons false (.k (.int (0))) .nil)) (.cons false (.tup (.cons false (.k (.int (0))) (.cons false (.k (.int (1))) (.cons false (.k (.int (2))) .nil)))) .nil)))) .nil))) .nil)) (.tup (.cons false (.tup (.cons false (.k (.int (0))) .nil)) (.cons false (.tup (.cons false (.k (.int (0))) (.cons false (.k (.int (1))) (.cons false (.k (.int (2))) .nil)))) .nil))))) (.cons (.ret (.k (.bl false)))
 .nil) .nil)
 (.cons (.ret (.op .eq (.call (x.f n_agrees) (.cons false (.mk (x.c c_Kind) (.cons false (.k (.int (3))) (.cons false (.tup (.cons false (.tup .nil) (.cons false (.tup (.cons false (.k (.int (0))) .nil)) (.cons false (.tup (.cons false (.k (.int (1))) .nil)) (.cons false (.tup (.cons false (.k (.int (0))) (.cons false (.k (.int (2))) .nil))) .nil))))) .nil))) .nil)) (.tup (.cons false (.tup .nil) (.cons false (.k (.int (0))) (.cons false (.k (.int (1))) (.cons false (.tup (.cons false (.k (.int (2))) .nil)) .nil)))))))
 .nil))))
def d_l_conditions_told (x : Ix) : Fd := ⟨0, 1, b_l_conditions_told x⟩
-- l_conditions_told 0:some
def b_l_near_told (x : Ix) : Ss := (.cons (.set 0 false (.call (x.f n_l_pick_kind) .nil))
 (.cons (.ite (.or (.op .ne (.call (x.f n_strikes) (.cons false (.var 0) (.cons false (.k (.int (1))) .nil))) (.lst (.cons false (.tup (.cons false (.tup (.cons false (.k (.int (0))) (.cons false (.k (.int (1))) .nil))) .nil)) (.cons false (.tup (.cons false (.tup (.cons false (.k (.int (2))) .nil)) .nil)) .nil)))) (.op .ne (.call (x.f n_adds) (.cons false (.var 0) (.cons false (.k (.int (1))) .nil))) (.lst (.cons false (.tup (.cons false (.tup (.cons false (.k (.int (0))) (.cons false (.k (.int (2))) .nil))) .nil)) (.cons false (.tup (.cons false (.tup (.cons false (.k (.int (1))) (.cons false (.k (.int (2))) .nil))) .nil)) .nil))))) (.cons (.ret (.k (.bl false)))
 .nil) .nil)
 (.cons (.ite (.op .ne (.call (x.f n_strikes) (.cons false (.mk (x.c c_Kind) (.cons false (.k (.int (3))) (.cons false (.tup (.cons false (.tup .nil) (.cons false (.tup (.cons false (.k (.int (0))) (.cons false (.k (.int (1))) .nil))) (.cons false (.tup (.cons false (.k (.int (0))) (.cons false (.k (.int (2))) .nil))) .nil)))) .nil))) (.cons false (.k (.int (2))) .nil))) (.lst (.cons false (.tup (.cons false (.tup (.cons false (.k (.int (0))) (.cons false (.k (.int (1))) .nil))) (.cons false (.tup (.cons false (.k (.int (0))) (.cons false (.k (.int (2))) .nil))) .nil))) .nil))) (.cons (.ret (.k (.bl false)))
 .nil) .nil)
 (.cons (.ret (.and (.op .eq (.call (x.f n_strikes) (.cons false (.var 0) (.cons false (.k (.int (0))) .nil))) (.lst .nil)) (.op .eq (.call (x.f n_adds) (.cons false (.mk (x.c c_Kind) (.cons false (.k (.int (1))) (.cons false (.tup (.cons false (.tup .nil) (.cons false (.tup (.cons false (.k (.int (0))) .nil)) .nil))) .nil))) (.cons false (.k (.int (2))) .nil))) (.lst (.cons false (.tup .nil) .nil)))))
 .nil))))
def d_l_near_told (x : Ix) : Fd := ⟨0, 1, b_l_near_told x⟩
-- l_near_told 0:some
def b_l_forms_told (x : Ix) : Ss := (.cons (.ite (.op .ne (.prop (x.c c_Kind) (x.f n_Kind_lots) (.call (x.f n_forests) (.cons false (.k (.int (3))) (.cons false (.tup (.cons false (.tup (.cons false (.k (.int (0))) (.cons false (.k (.int (1))) .nil))) (.cons false (.tup (.cons false (.k (.int (1))) (.cons false (.k (.int (2))) .nil))) (.cons false (.tup (.cons false (.k (.int (0))) (.cons false (.k (.int (2))) .nil))) .nil)))) .nil)))) (.tup (.cons false (.tup .nil) (.cons false (.tup (.cons false (.k (.int (0))) .nil)) (.cons false (.tup (.cons false (.k (.int (0))) (.cons false (.k (.int (1))) .nil))) (.cons false (.tup (.cons false (.k (.int (0))) (.cons false (.k (.int (2))) .nil))) (.cons false (.tup (.cons false (.k (.int (1))) .nil)) (.cons false (.tup (.cons false (.k (.int (1))) (.cons false (.k (.int (2))) .nil))) (.cons false (.tup (.cons false (.k (.int (2))) .nil)) .nil))))))))) (.cons (.ret (.k (.bl false)))
 .nil) .nil)
 (.cons (.ite (.op .ne (.prop (x.c c_Kind) (x.f n_Kind_lots) (.call (x.f n_grown) (.cons false (.k (.int (3))) (.cons false (.tup (.cons false (.tup (.cons false (.k (.int (0))) (.cons false (.k (.int (1))) .nil))) (.cons false (.tup (.cons false (.k (.int (1))) (.cons false (.k (.int (2))) .nil))) .nil))) (.cons false (.k (.int (0))) .nil))))) (.tup (.cons false (.tup .nil) (.cons false (.tup (.cons false (.k (.int (0))) .nil)) (.cons false (.tup (.cons false (.k (.int (0))) (.cons false (.k (.int (1))) .nil))) .nil))))) (.cons (.ret (.k (.bl false)))
 .nil) .nil)
 (.cons (.set 0 false (.call (x.f n_paired) (.cons false (.k (.int (4))) (.cons false (.tup (.cons false (.tup (.cons false (.k (.int (0))) (.cons false (.k (.int (1))) .nil))) (.cons false (.tup (.cons false (.k (.int (1))) (.cons false (.k (.int (2))) .nil))) (.cons false (.tup (.cons false (.k (.int (2))) (.cons false (.k (.int (3))) .nil))) .nil)))) .nil))))
 (.cons (.ite (.or (.op .ne (.prop (x.c c_Kind) (x.f n_Kind_lots) (.var 0)) (.tup (.cons false (.tup .nil) (.cons false (.tup (.cons false (.k (.int (0))) .nil)) (.cons false (.tup (.cons false (.k (.int (0))) (.cons false (.k (.int (2))) .nil))) (.cons false (.tup (.cons false (.k (.int (1))) .nil)) (.cons false (.tup (.cons false (.k (.int (2))) .nil)) .nil))))))) (.call (x.f n_always) (.cons false (.var 0) .nil))) (.cons (.ret (.k (.bl false)))
 .nil) .nil)
 (.cons (.ret (.op .eq (.prop (x.c c_Kind) (x.f n_Kind_lots) (.call (x.f n_worked) (.cons false (.k (.int (3))) (.cons false (.tup (.cons false (.tup (.cons false (.k (.int (0))) (.cons false (.k (.int (1))) .nil))) (.cons false (.tup (.cons false (.k (.int (0))) (.cons false (.k (.int (2))) .nil))) .nil))) .nil)))) (.tup (.cons false (.tup .nil) (.cons false (.tup (.cons false (.k (.int (0))) .nil)) (.cons false (.tup (.cons false (.k (.int (0))) (.cons false (.k (.int (1))) .nil))) (.cons false (.tup (.cons false (.k (.int (0))) (.cons false (.k (.int (1))) (.cons false (.k (.int (2))) .nil)))) (.cons false (.tup (.cons false (.k (.int (0))) (.cons false (.k (.int (2))) .nil))) .nil))))))))
 .nil)))))
def d_l_forms_told (x : Ix) : Fd := ⟨0, 1, b_l_forms_told x⟩
-- l_forms_told 0:pairs
def b_l_joining_told (x : Ix) : Ss := (.cons (.set 0 false (.call (x.f n_l_pick_kind) .nil))
 (.cons (.ite (.op .ne (.prop (x.c c_Kind) (x.f n_Kind_lots) (.call (x.f n_joined) (.cons false (.mk (x.c c_Kind) (.cons false (.k (.int (1))) (.cons false (.tup (.cons false (.tup .nil) (.cons false (.tup (.cons false (.k (.int (0))) .nil)) .nil))) .nil))) (.cons false (.mk (x.c c_Kind) (.cons false (.k (.int (2))) (.cons false (.tup (.cons false (.tup .nil) (.cons false (.tup (.cons false (.k (.int (1))) .nil)) .nil))) .nil))) .nil)))) (.tup (.cons false (.tup .nil) (.cons false (.tup (.cons false (.k (.int (0))) .nil)) (.cons false (.tup (.cons false (.k (.int (0))) (.cons false (.k (.int (2))) .nil))) (.cons false (.tup (.cons false (.k (.int (2))) .nil)) .nil)))))) (.cons (.ret (.k (.bl false)))
 .nil) .nil)
 (.cons (.ite (.or (.op .ne (.prop (x.c c_Kind) (x.f n_Kind_lots) (.call (x.f n_without) (.cons false (.var 0) (.cons false (.k (.int (2))) .nil)))) (.tup (.cons false (.tup .nil) (.cons false (.tup (.cons false (.k (.int (0))) .nil)) (.cons false (.tup (.cons false (.k (.int (0))) (.cons false (.k (.int (1))) .nil))) (.cons false (.tup (.cons false (.k (.int (1))) .nil)) .nil)))))) (.op .ne (.prop (x.c c_Kind) (x.f n_Kind_lots) (.call (x.f n_beside) (.cons false (.var 0) (.cons false (.k (.int (0))) .nil)))) (.tup (.cons false (.tup .nil) (.cons false (.tup (.cons false (.k (.int (0))) .nil)) .nil))))) (.cons (.ret (.k (.bl false)))
 .nil) .nil)
 (.cons (.ite (.or (.op .ne (.prop (x.c c_Kind) (x.f n_Kind_lots) (.call (x.f n_cut) (.cons false (.var 0) (.cons false (.k (.int (1))) .nil)))) (.tup (.cons false (.tup .nil) (.cons false (.tup (.cons false (.k (.int (0))) .nil)) (.cons false (.tup (.cons false (.k (.int (1))) .nil)) (.cons false (.tup (.cons false (.k (.int (2))) .nil)) .nil)))))) (.op .ne (.call (x.f n_parting) (.cons false (.var 0) (.cons false (.call (x.f n_cut) (.cons false (.var 0) (.cons false (.k (.int (1))) .nil))) .nil))) (.tup (.cons false (.k (.int (3))) (.cons false (.k (.int (2))) (.cons false (.k (.int (1))) .nil)))))) (.cons (.ret (.k (.bl false)))
 .nil) .nil)
 (.cons (.ret (.and (.call (x.f n_alike) (.cons false (.var 0) (.cons false (.var 0) .nil))) (.not (.call (x.f n_alike) (.cons false (.var 0) (.cons false (.call (x.f n_cut) (.cons false (.var 0) (.cons false (.k (.int (1))) .nil))) .nil))))))
 .nil)))))
def d_l_joining_told (x : Ix) : Fd := ⟨0, 1, b_l_joining_told x⟩
-- l_joining_told 0:some
def b_law_k17 (x : Ix) : Ss := (.cons (.set 1 true (.call (x.f n_l_random) (.cons false (.var 0) (.cons false (.k (.int (1817))) .nil))))
 (.cons (.set 2 false (.call (x.f n_l_below) (.cons false (.var 1) (.cons false (.k (.int (6))) .nil))))
 (.cons (.ite (.op .eq (.var 2) (.k (.int (0)))) (.cons (.ret (.call (x.f n_l_kinds_told) .nil))
 .nil) .nil)
 (.cons (.ite (.op .eq (.var 2) (.k (.int (1)))) (.cons (.ret (.call (x.f n_l_taking_told) .nil))
 .nil) .nil)
 (.cons (.ite (.op .eq (.var 2) (.k (.int (2)))) (.cons (.ret (.call (x.f n_l_conditions_told) .nil))
 .nil) .nil)
 (.cons (.ite (.op .eq (.var 2) (.k (.int (3)))) (.cons (.ret (.call (x.f n_l_near_told) .nil))
 .nil) .nil)
 (.cons (.ret (.ite (.op .eq (.var 2) (.k (.int (4)))) (.call (x.f n_l_forms_told) .nil) (.call (x.f n_l_joining_told) .nil)))
 .nil)))))))
def d_law_k17 (x : Ix) : Fd := ⟨1, 3, b_law_k17 x⟩
-- law_k17 0:script 1:d 2:known
def b_l_sets_k18 (x : Ix) : Ss := (.cons (.set 1 false (.lst (.cons false (.tup .nil) .nil)))
 (.cons (.for_ (.one 2) (.range1 (.var 0)) (.cons (.set 1 false (.op .add (.var 1) (.comp (.op .add (.var 3) (.tup (.cons false (.var 2) .nil))) (.one 3) (.e (.var 1)) .no [3])))
 .nil))
 (.cons (.ret (.slice (.bi .sorted (.cons false (.var 1) .nil)) (.yes (.k (.int (1)))) .no))
 .nil)))
def d_l_sets_k18 (x : Ix) : Fd := ⟨1, 4, b_l_sets_k18 x⟩
-- l_sets_k18 0:things 1:found 2:thing 3:some
def b_l_kind (x : Ix) : Ss := (.cons (.par 2 false 3 false (.op .add (.k (.int (1))) (.call (x.f n_l_below) (.cons false (.var 0) (.cons false (.var 1) .nil)))) (.op .add (.k (.int (2))) (.call (x.f n_l_below) (.cons false (.var 0) (.cons false (.k (.int (3))) .nil)))))
 (.cons (.set 4 false (.comp (.var 6) (.one 6) (.e (.call (x.f n_l_sets_k18) (.cons false (.var 2) .nil))) (.yes (.op .gt (.call (x.f n_l_below) (.cons false (.var 0) (.cons false (.var 3) .nil))) (.k (.int (0))))) [6]))
 (.cons (.ite (.op .eq (.call (x.f n_l_below) (.cons false (.var 0) (.cons false (.k (.int (3))) .nil))) (.k (.int (0)))) (.cons (.set 5 false (.op .add (.k (.int (1))) (.call (x.f n_l_below) (.cons false (.var 0) (.cons false (.var 2) .nil)))))
 (.cons (.set 4 false (.comp (.var 6) (.one 6) (.e (.call (x.f n_l_sets_k18) (.cons false (.var 2) .nil))) (.yes (.and (.op .le (.bi .len (.cons false (.var 6) .nil)) (.var 5)) (.or (.op .gt (.var 3) (.k (.int (2)))) (.op .ne (.sub (.var 6) (.k (.int (0)))) (.k (.int (1))))))) [6]))
 .nil)) .nil)
 (.cons (.ret (.mk (x.c c_Kind) (.cons false (.var 2) (.cons false (.op .add (.tup (.cons false (.tup .nil) .nil)) (.bi .tuple (.cons false (.var 4) .nil))) .nil))))
 .nil))))
def d_l_kind (x : Ix) : Fd := ⟨2, 7, b_l_kind x⟩
-- l_kind 0:d 1:most 2:things 3:share 4:lots 5:size 6:some
def b_l_added_k18 (x : Ix) : Ss := (.cons (.ret (.comp (.var 2) (.one 2) (.range1 (.prop (x.c c_Kind) (x.f n_Kind_things) (.var 0))) (.yes (.and (.op .nmem (.var 2) (.var 1)) (.op .mem (.bi .tuple (.cons false (.bi .sorted (.cons false (.op .add (.var 1) (.tup (.cons false (.var 2) .nil))) .nil)) .nil)) (.prop (x.c c_Kind) (x.f n_Kind_lots) (.var 0))))) [2]))
 .nil)
def d_l_added_k18 (x : Ix) : Fd := ⟨2, 3, b_l_added_k18 x⟩
-- l_added_k18 0:kind_here 1:lot 2:thing
def b_l_taken_k18 (x : Ix) : Ss := (.cons (.set 2 false (.tup .nil))
 (.cons (.for_ (.one 3) (.range1 (.prop (x.c c_Kind) (x.f n_Kind_things) (.var 0))) (.cons (.set 4 false (.comp (.tup (.cons false (.op .sub (.k (.int (0))) (.sub (.var 1) (.var 5))) (.cons false (.var 5) .nil))) (.one 5) (.e (.call (x.f n_l_added_k18) (.cons false (.var 0) (.cons false (.bi .tuple (.cons false (.bi .sorted (.cons false (.var 2) .nil)) .nil)) .nil)))) .no [5]))
 (.cons (.ite (.op .ne (.var 4) (.lst .nil)) (.cons (.set 2 false (.op .add (.var 2) (.tup (.cons false (.sub (.bi .min (.cons false (.var 4) .nil)) (.k (.int (1)))) .nil))))
 .nil) .nil)
 .nil)))
 (.cons (.ret (.var 2))
 .nil)))
def d_l_taken_k18 (x : Ix) : Fd := ⟨2, 6, b_l_taken_k18 x⟩
-- l_taken_k18 0:kind_here 1:weights 2:row 3:lap 4:some 5:thing
def b_l_full_k18 (x : Ix) : Ss := (.cons (.ret (.comp (.var 1) (.one 1) (.e (.prop (x.c c_Kind) (x.f n_Kind_lots) (.var 0))) (.yes (.op .eq (.call (x.f n_l_added_k18) (.cons false (.var 0) (.cons false (.var 1) .nil))) (.lst .nil))) [1]))
 .nil)
def d_l_full_k18 (x : Ix) : Fd := ⟨1, 2, b_l_full_k18 x⟩
-- l_full_k18 0:kind_here 1:lot
def b_l_least_k18 (x : Ix) : Ss := (.cons (.ret (.bi .min (.cons false (.op .add (.lst (.cons false (.k (.int (100))) .nil)) (.comp (.sub (.var 1) (.var 2)) (.one 2) (.e (.var 0)) .no [2])) .nil)))
 .nil)
def d_l_least_k18 (x : Ix) : Fd := ⟨2, 3, b_l_least_k18 x⟩
-- l_least_k18 0:lot 1:weights 2:thing
def b_law_k18 (x : Ix) : Ss := (.cons (.set 1 true (.call (x.f n_l_random) (.cons false (.var 0) (.cons false (.k (.int (1818))) .nil))))
 (.cons (.for_ (.one 2) (.range1 (.k (.int (3)))) (.cons (.set 3 false (.call (x.f n_l_kind) (.cons false (.var 1) (.cons false (.call (x.f n_l_pick) (.cons false (.var 1) (.cons false (.lst (.cons false (.k (.int (4))) (.cons false (.k (.int (4))) (.cons false (.k (.int (4))) (.cons false (.k (.int (5))) .nil))))) .nil))) .nil))))
 (.cons (.set 4 false (.bi .tuple (.cons false (.comp (.op .sub (.call (x.f n_l_below) (.cons false (.var 1) (.cons false (.k (.int (9))) .nil))) (.k (.int (3)))) (.one 14) (.range1 (.prop (x.c c_Kind) (x.f n_Kind_things) (.var 3))) .no [14]) .nil)))
 (.cons (.par 5 false 6 false (.bi .tuple (.cons false (.bi .sorted (.cons false (.call (x.f n_l_taken_k18) (.cons false (.var 3) (.cons false (.var 4) .nil))) .nil)) .nil)) (.call (x.f n_l_full_k18) (.cons false (.var 3) .nil)))
 (.cons (.for_ (.one 7) (.e (.prop (x.c c_Kind) (x.f n_Kind_lots) (.var 3))) (.cons (.set 8 false (.op .gt (.bi .sum (.cons false (.comp (.sub (.var 4) (.var 15)) (.one 15) (.e (.var 7)) .no [15]) .nil)) (.bi .sum (.cons false (.comp (.sub (.var 4) (.var 15)) (.one 15) (.e (.var 5)) .no [15]) .nil))))
 (.cons (.ite (.not (.call (x.f n_l_equal) (.cons false (.call (x.f n_right_fooling) (.cons false (.var 3) (.cons false (.tup (.cons false (.var 4) (.cons false (.var 5) (.cons false (.var 7) .nil)))) .nil))) (.cons false (.and (.var 8) (.op .mem (.var 7) (.var 6))) .nil)))) (.cons (.ret (.k (.bl false)))
 .nil) .nil)
 (.cons (.set 9 false (.op .gt (.call (x.f n_l_least_k18) (.cons false (.var 7) (.cons false (.var 4) .nil))) (.call (x.f n_l_least_k18) (.cons false (.var 5) (.cons false (.var 4) .nil)))))
 (.cons (.ite (.not (.call (x.f n_l_equal) (.cons false (.call (x.f n_right_fooling_least) (.cons false (.var 3) (.cons false (.tup (.cons false (.var 4) (.cons false (.var 5) (.cons false (.var 7) .nil)))) .nil))) (.cons false (.and (.var 9) (.op .mem (.var 7) (.var 6))) .nil)))) (.cons (.ret (.k (.bl false)))
 .nil) .nil)
 .nil)))))
 (.cons (.par 10 false 11 false (.call (x.f n_fooling) (.cons false (.var 3) .nil)) (.call (x.f n_fooling_least) (.cons false (.var 3) .nil)))
 (.cons (.ite (.and (.notN (.var 10)) (.not (.call (x.f n_right_fooling) (.cons false (.var 3) (.cons false (.var 10) .nil))))) (.cons (.ret (.k (.bl false)))
 .nil) .nil)
 (.cons (.ite (.and (.notN (.var 11)) (.not (.call (x.f n_right_fooling_least) (.cons false (.var 3) (.cons false (.var 11) .nil))))) (.cons (.ret (.k (.bl false)))
 .nil) .nil)
 (.cons (.set 7 false (.call (x.f n_l_pick) (.cons false (.var 1) (.cons false (.var 6) .nil))))
 (.cons (.set 12 true (.lst (.cons false (.k .non) (.cons false (.tup .nil) (.cons false (.tup (.cons false (.var 4) (.cons false (.var 5) .nil))) (.cons false (.lst (.cons false (.var 4) (.cons false (.var 5) (.cons false (.var 7) .nil)))) (.cons false (.tup (.cons false (.var 4) (.cons false (.var 5) (.cons false (.var 7) (.cons false (.k (.int (0))) .nil))))) .nil)))))))
 (.cons (.set 12 true (.op .add (.var 12) (.lst (.cons false (.tup (.cons false (.bi .list (.cons false (.var 4) .nil)) (.cons false (.var 5) (.cons false (.var 7) .nil)))) (.cons false (.tup (.cons false (.var 4) (.cons false (.bi .list (.cons false (.var 5) .nil)) (.cons false (.var 7) .nil)))) (.cons false (.tup (.cons false (.var 4) (.cons false (.var 5) (.cons false (.bi .list (.cons false (.var 7) .nil)) .nil)))) (.cons false (.k (.int (3))) (.cons false (.k (.str [48])) .nil))))))))
 (.cons (.ex (.app (.var 12) (.tup (.cons false (.op .add (.var 4) (.tup (.cons false (.k (.int (0))) .nil))) (.cons false (.var 5) (.cons false (.var 7) .nil))))))
 (.cons (.set 12 true (.op .add (.var 12) (.lst (.cons false (.tup (.cons false (.op .add (.slice (.var 4) .no (.yes (.neg (.k (.int (1)))))) (.tup (.cons false (.k (.int (100))) .nil))) (.cons false (.var 5) (.cons false (.var 7) .nil)))) (.cons false (.tup (.cons false (.var 4) (.cons false (.op .add (.var 5) (.tup (.cons false (.k (.int (0))) .nil))) (.cons false (.var 7) .nil)))) (.cons false (.tup (.cons false (.var 4) (.cons false (.var 5) (.cons false (.op .add (.var 7) (.tup (.cons false (.k (.int (9))) .nil))) .nil)))) .nil))))))
 (.cons (.for_ (.one 13) (.e (.op .add (.var 12) (.lst (.cons false (.tup (.cons false (.var 4) (.cons false (.k .non) (.cons false (.var 7) .nil)))) (.cons false (.tup (.cons false (.k .non) (.cons false (.var 5) (.cons false (.var 7) .nil)))) (.cons false (.tup (.cons false (.var 4) (.cons false (.var 5) (.cons false (.k .non) .nil)))) (.cons false (.tup (.cons false (.tup (.cons false (.k .non) .nil)) (.cons false (.var 5) (.cons false (.var 7) .nil)))) .nil))))))) (.cons (.ite (.or (.notB (.call (x.f n_right_fooling) (.cons false (.var 3) (.cons false (.var 13) .nil))) false) (.notB (.call (x.f n_right_fooling_least) (.cons false (.var 3) (.cons false (.var 13) .nil))) false)) (.cons (.ret (.k (.bl false)))
 .nil) .nil)
 .nil))
 .nil))))))))))))))
 (.cons (.ret (.k (.bl true)))
 .nil)))
def d_law_k18 (x : Ix) : Fd := ⟨1, 16, b_law_k18 x⟩
-- law_k18 0:script 1:d 2:turn 3:kind_here 4:weights 5:lot 6:some 7:better 8:heavy 9:rich 10:told 11:least_here 12:odd 13:value 14:k 15:thing
def b_l_worst (x : Ix) : Ss := (.cons (.par 1 false 2 false (.k .non) (.call (x.f n_l_full_k18) (.cons false (.var 0) .nil)))
 (.cons (.for_ (.one 3) (.e (.call (x.f n_l_orders) (.cons false (.prop (x.c c_Kind) (x.f n_Kind_things) (.var 0)) .nil))) (.cons (.set 4 false (.call (x.f n_l_taken_k18) (.cons false (.var 0) (.cons false (.call (x.f n_l_falling) (.cons false (.var 3) .nil)) .nil))))
 (.cons (.for_ (.one 5) (.range2 (.k (.int (1))) (.op .add (.prop (x.c c_Kind) (x.f n_Kind_things) (.var 0)) (.k (.int (1))))) (.cons (.set 6 false (.bi .len (.cons false (.comp (.var 9) (.one 9) (.e (.var 4)) (.yes (.op .mem (.var 9) (.slice (.var 3) .no (.yes (.var 5))))) [9]) .nil)))
 (.cons (.for_ (.one 7) (.e (.var 2)) (.cons (.set 8 false (.bi .len (.cons false (.comp (.var 9) (.one 9) (.e (.var 7)) (.yes (.op .mem (.var 9) (.slice (.var 3) .no (.yes (.var 5))))) [9]) .nil)))
 (.cons (.ite (.and (.op .lt (.var 6) (.var 8)) (.or (.isN (.var 1)) (.op .lt (.op .mul (.var 6) (.sub (.sub (.var 1) (.k (.int (0)))) (.k (.int (1))))) (.op .mul (.sub (.sub (.var 1) (.k (.int (0)))) (.k (.int (0)))) (.var 8))))) (.cons (.set 1 false (.tup (.cons false (.tup (.cons false (.var 6) (.cons false (.var 8) .nil))) (.cons false (.var 3) (.cons false (.var 5) (.cons false (.var 7) .nil))))))
 .nil) .nil)
 .nil)))
 .nil)))
 .nil)))
 (.cons (.ret (.var 1))
 .nil)))
def d_l_worst (x : Ix) : Fd := ⟨1, 10, b_l_worst x⟩
-- l_worst 0:kind_here 1:best 2:some 3:order 4:row 5:many 6:own 7:lot 8:more 9:thing
def b_law_k19 (x : Ix) : Ss := (.cons (.set 1 true (.call (x.f n_l_random) (.cons false (.var 0) (.cons false (.k (.int (1919))) .nil))))
 (.cons (.set 2 false (.call (x.f n_l_kind) (.cons false (.var 1) (.cons false (.call (x.f n_l_pick) (.cons false (.var 1) (.cons false (.lst (.cons false (.k (.int (4))) (.cons false (.k (.int (4))) (.cons false (.k (.int (4))) (.cons false (.k (.int (5))) .nil))))) .nil))) .nil))))
 (.cons (.par 3 false 4 false (.call (x.f n_l_worst) (.cons false (.var 2) .nil)) (.call (x.f n_worst_share) (.cons false (.var 2) .nil)))
 (.cons (.unp [5, 6] (.var 4))
 (.cons (.ite (.not (.call (x.f n_l_equal) (.cons false (.call (x.f n_worst_case) (.cons false (.var 2) .nil)) (.cons false (.ite (.notN (.var 3)) (.slice (.var 3) (.yes (.k (.int (1)))) .no) (.k .non)) .nil)))) (.cons (.ret (.k (.bl false)))
 .nil) .nil)
 (.cons (.ite (.or (.op .ne (.comp (.var 12) (.one 12) (.range2 (.k (.int (2))) (.op .add (.var 6) (.k (.int (1))))) (.yes (.and (.op .eq (.op .mod (.var 5) (.var 12)) (.k (.int (0)))) (.op .eq (.op .mod (.var 6) (.var 12)) (.k (.int (0)))))) [12]) (.lst .nil)) (.not (.bi (.isT .tuple x.obs) (.cons false (.var 4) .nil)))) (.cons (.ret (.k (.bl false)))
 .nil) .nil)
 (.cons (.ite (.or (.and (.isN (.var 3)) (.op .ne (.var 4) (.tup (.cons false (.k (.int (1))) (.cons false (.k (.int (1))) .nil))))) (.and (.notN (.var 3)) (.op .ne (.op .mul (.var 5) (.sub (.sub (.var 3) (.k (.int (0)))) (.k (.int (1))))) (.op .mul (.sub (.sub (.var 3) (.k (.int (0)))) (.k (.int (0)))) (.var 6))))) (.cons (.ret (.k (.bl false)))
 .nil) .nil)
 (.cons (.for_ (.one 7) (.range1 (.k (.int (6)))) (.cons (.set 8 false (.bi .tuple (.cons false (.comp (.call (x.f n_l_pick) (.cons false (.var 1) (.cons false (.lst (.cons false (.k (.int (0))) (.cons false (.k (.int (1))) (.cons false (.call (x.f n_l_below) (.cons false (.var 1) (.cons false (.k (.int (9))) .nil))) (.cons false (.op .pow (.k (.int (10))) (.k (.int (30)))) (.cons false (.op .pow (.k (.int (10))) (.k (.int (20)))) .nil)))))) .nil))) (.one 12) (.range1 (.prop (x.c c_Kind) (x.f n_Kind_things) (.var 2))) .no [12]) .nil)))
 (.cons (.set 9 false (.bi .sum (.cons false (.comp (.sub (.var 8) (.var 13)) (.one 13) (.e (.call (x.f n_l_taken_k18) (.cons false (.var 2) (.cons false (.var 8) .nil)))) .no [13]) .nil)))
 (.cons (.set 10 false (.bi .max (.cons false (.comp (.bi .sum (.cons false (.comp (.sub (.var 8) (.var 13)) (.one 13) (.e (.var 14)) .no [13]) .nil)) (.one 14) (.e (.call (x.f n_l_full_k18) (.cons false (.var 2) .nil))) .no [14]) .nil)))
 (.cons (.ite (.op .lt (.op .mul (.var 9) (.var 6)) (.op .mul (.var 10) (.var 5))) (.cons (.ret (.k (.bl false)))
 .nil) .nil)
 .nil)))))
 (.cons (.ite (.notN (.var 3)) (.cons (.set 11 false (.comp (.op .mul (.op .pow (.k (.int (10))) (.k (.int (6)))) (.bi .int (.cons false (.op .mem (.var 13) (.slice (.sub (.var 3) (.k (.int (1)))) .no (.yes (.sub (.var 3) (.k (.int (2))))))) .nil))) (.one 13) (.range1 (.prop (x.c c_Kind) (x.f n_Kind_things) (.var 2))) .no [13]))
 (.cons (.set 8 false (.comp (.op .add (.sub (.var 11) (.var 13)) (.sub (.call (x.f n_l_falling) (.cons false (.sub (.var 3) (.k (.int (1)))) .nil)) (.var 13))) (.one 13) (.range1 (.prop (x.c c_Kind) (x.f n_Kind_things) (.var 2))) .no [13]))
 (.cons (.set 9 false (.bi .sum (.cons false (.comp (.sub (.var 8) (.var 13)) (.one 13) (.e (.call (x.f n_l_taken_k18) (.cons false (.var 2) (.cons false (.var 8) .nil)))) .no [13]) .nil)))
 (.cons (.set 10 false (.bi .max (.cons false (.comp (.bi .sum (.cons false (.comp (.sub (.var 8) (.var 13)) (.one 13) (.e (.var 14)) .no [13]) .nil)) (.one 14) (.e (.call (x.f n_l_full_k18) (.cons false (.var 2) .nil))) .no [14]) .nil)))
 (.cons (.ite (.op .gt (.op .mul (.op .mul (.var 9) (.var 6)) (.k (.int (1000)))) (.op .mul (.var 10) (.op .add (.op .mul (.var 5) (.k (.int (1000)))) (.var 6)))) (.cons (.ret (.k (.bl false)))
 .nil) .nil)
 .nil))))) .nil)
 (.cons (.ret (.or (.not (.call (x.f n_always) (.cons false (.var 2) .nil))) (.op .eq (.var 4) (.tup (.cons false (.k (.int (1))) (.cons false (.k (.int (1))) .nil))))))
 .nil))))))))))
def d_law_k19 (x : Ix) : Fd := ⟨1, 15, b_law_k19 x⟩
-- law_k19 0:script 1:d 2:kind_here 3:best 4:share 5:over 6:under 7:turn 8:weights 9:own 10:most 11:great 12:k 13:thing 14:lot
def b_l_told_k20 (x : Ix) : Ss := (.cons (.set 2 true (.lst .nil))
 (.cons (.try_ (.cons (.ex (.call (x.f n_margin) (.cons false (.var 0) (.cons false (.var 1) .nil))))
 .nil) [⟨(x.c c_BadWeights), none, (.app 2 (.k (.str [109, 97, 114, 103, 105, 110])))⟩])
 (.cons (.try_ (.cons (.ex (.call (x.f n_nudged) (.cons false (.var 0) (.cons false (.var 1) .nil))))
 .nil) [⟨(x.c c_BadWeights), none, (.app 2 (.k (.str [110, 117, 100, 103, 101, 100])))⟩])
 (.cons (.ret (.var 2))
 .nil))))
def d_l_told_k20 (x : Ix) : Fd := ⟨2, 3, b_l_told_k20 x⟩
-- l_told_k20 0:kind_here 1:weights 2:found
def b_l_near (x : Ix) : Ss := (.cons (.set 2 false (.lst (.cons false (.tup .nil) .nil)))
 (.cons (.for_ (.one 3) (.e (.var 0)) (.cons (.set 4 false (.lst .nil))
 (.cons (.for_ (.one 5) (.e (.var 2)) (.cons (.set 4 false (.op .add (.var 4) (.comp (.op .add (.var 5) (.tup (.cons false (.op .add (.var 3) (.var 6)) .nil))) (.one 6) (.range2 (.op .sub (.k (.int (0))) (.var 1)) (.op .add (.var 1) (.k (.int (1))))) .no [6])))
 .nil))
 (.cons (.set 2 false (.var 4))
 .nil))))
 (.cons (.ret (.var 2))
 .nil)))
def d_l_near (x : Ix) : Fd := ⟨2, 7, b_l_near x⟩
-- l_near 0:weights 1:far 2:found 3:one 4:later 5:row 6:more
def b_l_nudges (x : Ix) : Ss := (.cons (.set 3 false (.call (x.f n_nudged) (.cons false (.var 0) (.cons false (.var 1) .nil))))
 (.cons (.ite (.isN (.var 2)) (.cons (.ret (.isN (.var 3)))
 .nil) .nil)
 (.cons (.ite (.not (.call (x.f n_l_equal) (.cons false (.var 3) (.cons false (.bi .tuple (.cons false (.comp (.bi .int (.cons false (.var 4) .nil)) (.one 4) (.e (.var 3)) .no [4]) .nil)) .nil)))) (.cons (.ret (.k (.bl false)))
 .nil) .nil)
 (.cons (.ite (.op .ne (.bi .len (.cons false (.var 3) .nil)) (.bi .len (.cons false (.var 1) .nil))) (.cons (.ret (.k (.bl false)))
 .nil) .nil)
 (.cons (.ite (.op .gt (.bi .max (.cons false (.comp (.bi .abs (.cons false (.op .sub (.sub (.var 1) (.var 5)) (.sub (.var 3) (.var 5))) .nil)) (.one 5) (.range1 (.bi .len (.cons false (.var 1) .nil))) .no [5]) .nil)) (.var 2)) (.cons (.ret (.k (.bl false)))
 .nil) .nil)
 (.cons (.ret (.op .ne (.call (x.f n_l_taken_k18) (.cons false (.var 0) (.cons false (.var 3) .nil))) (.call (x.f n_l_taken_k18) (.cons false (.var 0) (.cons false (.var 1) .nil)))))
 .nil))))))
def d_l_nudges (x : Ix) : Fd := ⟨3, 6, b_l_nudges x⟩
-- l_nudges 0:kind_here 1:weights 2:told_here 3:other 4:one 5:k
def b_law_k20 (x : Ix) : Ss := (.cons (.set 1 true (.call (x.f n_l_random) (.cons false (.var 0) (.cons false (.k (.int (2020))) .nil))))
 (.cons (.set 2 false (.call (x.f n_l_kind) (.cons false (.var 1) (.cons false (.k (.int (3))) .nil))))
 (.cons (.set 3 false (.bi .tuple (.cons false (.comp (.call (x.f n_l_pick) (.cons false (.var 1) (.cons false (.lst (.cons false (.op .sub (.call (x.f n_l_below) (.cons false (.var 1) (.cons false (.k (.int (6))) .nil))) (.k (.int (2)))) (.cons false (.op .sub (.call (x.f n_l_below) (.cons false (.var 1) (.cons false (.k (.int (6))) .nil))) (.k (.int (2)))) (.cons false (.k (.int (99))) (.cons false (.neg (.k (.int (99)))) .nil))))) .nil))) (.one 10) (.range1 (.prop (x.c c_Kind) (x.f n_Kind_things) (.var 2))) .no [10]) .nil)))
 (.cons (.par 4 false 5 false (.call (x.f n_margin) (.cons false (.var 2) (.cons false (.var 3) .nil))) (.call (x.f n_l_taken_k18) (.cons false (.var 2) (.cons false (.var 3) .nil))))
 (.cons (.ite (.not (.call (x.f n_l_nudges) (.cons false (.var 2) (.cons false (.var 3) (.cons false (.var 4) .nil))))) (.cons (.ret (.k (.bl false)))
 .nil) .nil)
 (.cons (.set 6 false (.ite (.or (.isN (.var 4)) (.op .gt (.var 4) (.k (.int (3))))) (.k (.int (3))) (.op .sub (.var 4) (.k (.int (1))))))
 (.cons (.set 7 false (.ite (.op .ge (.var 6) (.k (.int (0)))) (.call (x.f n_l_near) (.cons false (.var 3) (.cons false (.var 6) .nil))) (.lst .nil)))
 (.cons (.ite (.op .ne (.comp (.var 11) (.one 11) (.e (.var 7)) (.yes (.op .ne (.call (x.f n_l_taken_k18) (.cons false (.var 2) (.cons false (.var 11) .nil))) (.var 5))) [11]) (.lst .nil)) (.cons (.ret (.k (.bl false)))
 .nil) .nil)
 (.cons (.set 8 false (.comp (.bi .tuple (.cons false (.bi .sorted (.cons false (.slice (.var 5) .no (.yes (.var 10))) .nil)) .nil)) (.one 10) (.range1 (.bi .len (.cons false (.var 5) .nil))) .no [10]))
 (.cons (.ite (.and (.isN (.var 4)) (.op .ne (.comp (.var 12) (.one 12) (.e (.var 8)) (.yes (.op .gt (.bi .len (.cons false (.call (x.f n_l_added_k18) (.cons false (.var 2) (.cons false (.var 12) .nil))) .nil)) (.k (.int (1))))) [12]) (.lst .nil))) (.cons (.ret (.k (.bl false)))
 .nil) .nil)
 (.cons (.set 2 false (.call (x.f n_l_kind) (.cons false (.var 1) (.cons false (.k (.int (5))) .nil))))
 (.cons (.set 3 false (.bi .tuple (.cons false (.comp (.op .sub (.call (x.f n_l_below) (.cons false (.var 1) (.cons false (.k (.int (199))) .nil))) (.k (.int (99)))) (.one 10) (.range1 (.prop (x.c c_Kind) (x.f n_Kind_things) (.var 2))) .no [10]) .nil)))
 (.cons (.set 4 false (.call (x.f n_margin) (.cons false (.var 2) (.cons false (.var 3) .nil))))
 (.cons (.ite (.or (.not (.call (x.f n_l_nudges) (.cons false (.var 2) (.cons false (.var 3) (.cons false (.var 4) .nil))))) (.and (.notN (.var 4)) (.not (.chain .le .le (.k (.int (0))) (.var 4) (.k (.int (100))))))) (.cons (.ret (.k (.bl false)))
 .nil) .nil)
 (.cons (.for_ (.one 9) (.e (.lst (.cons false (.k .non) (.cons false (.slice (.var 3) (.yes (.k (.int (1)))) .no) (.cons false (.op .add (.var 3) (.tup (.cons false (.k (.int (0))) .nil))) (.cons false (.bi .list (.cons false (.var 3) .nil)) (.cons false (.op .add (.slice (.var 3) (.yes (.k (.int (1)))) .no) (.tup (.cons false (.k (.int (100))) .nil))) (.cons false (.op .add (.slice (.var 3) (.yes (.k (.int (1)))) .no) (.tup (.cons false (.k (.bl true)) .nil))) (.cons false (.k (.int (3))) .nil))))))))) (.cons (.ite (.op .ne (.call (x.f n_l_told_k20) (.cons false (.var 2) (.cons false (.var 9) .nil))) (.lst (.cons false (.k (.str [109, 97, 114, 103, 105, 110])) (.cons false (.k (.str [110, 117, 100, 103, 101, 100])) .nil)))) (.cons (.ret (.k (.bl false)))
 .nil) .nil)
 .nil))
 (.cons (.ret (.k (.bl true)))
 .nil))))))))))))))))
def d_law_k20 (x : Ix) : Fd := ⟨1, 13, b_law_k20 x⟩
-- law_k20 0:script 1:d 2:kind_here 3:weights 4:told_here 5:row 6:far 7:every 8:heads 9:value 10:k 11:near_here 12:lot
def b_law_k21 (x : Ix) : Ss := (.cons (.set 1 true (.call (x.f n_l_random) (.cons false (.var 0) (.cons false (.k (.int (2121))) .nil))))
 (.cons (.for_ (.one 2) (.range1 (.k (.int (2)))) (.cons (.par 3 false 4 true (.call (x.f n_l_kind) (.cons false (.var 1) (.cons false (.call (x.f n_l_pick) (.cons false (.var 1) (.cons false (.lst (.cons false (.k (.int (4))) (.cons false (.k (.int (4))) (.cons false (.k (.int (4))) (.cons false (.k (.int (5))) .nil))))) .nil))) .nil))) (.dnew .nil))
 (.cons (.for_ (.one 5) (.e (.call (x.f n_l_orders) (.cons false (.prop (x.c c_Kind) (x.f n_Kind_things) (.var 3)) .nil))) (.cons (.ex (.dset (.var 4) (.call (x.f n_l_taken_k18) (.cons false (.var 3) (.cons false (.call (x.f n_l_falling) (.cons false (.var 5) .nil)) .nil))) (.call (x.f n_l_falling) (.cons false (.var 5) .nil))))
 .nil))
 (.cons (.ite (.not (.call (x.f n_l_equal) (.cons false (.call (x.f n_rows_taken) (.cons false (.var 3) .nil)) (.cons false (.bi .sorted (.cons false (.dkeys (.var 4)) .nil)) .nil)))) (.cons (.ret (.k (.bl false)))
 .nil) .nil)
 (.cons (.for_ (.one 6) (.e (.var 4)) (.cons (.ite (.not (.call (x.f n_l_equal) (.cons false (.call (x.f n_weights_for) (.cons false (.var 3) (.cons false (.var 6) .nil))) (.cons false (.sub (.var 4) (.var 6)) .nil)))) (.cons (.ret (.k (.bl false)))
 .nil) .nil)
 .nil))
 (.cons (.for_ (.one 7) (.range1 (.k (.int (4)))) (.cons (.set 8 false (.bi .tuple (.cons false (.comp (.op .sub (.call (x.f n_l_below) (.cons false (.var 1) (.cons false (.k (.int (7))) .nil))) (.k (.int (3)))) (.one 12) (.range1 (.prop (x.c c_Kind) (x.f n_Kind_things) (.var 3))) .no [12]) .nil)))
 (.cons (.ite (.op .nmem (.call (x.f n_l_taken_k18) (.cons false (.var 3) (.cons false (.var 8) .nil))) (.var 4)) (.cons (.ret (.k (.bl false)))
 .nil) .nil)
 .nil)))
 (.cons (.set 6 false (.call (x.f n_l_pick) (.cons false (.var 1) (.cons false (.bi .sorted (.cons false (.dkeys (.var 4)) .nil)) .nil))))
 (.cons (.set 9 false (.lst (.cons false (.k .non) (.cons false (.bi .list (.cons false (.var 6) .nil)) (.cons false (.op .add (.var 6) (.tup (.cons false (.k (.int (0))) .nil))) (.cons false (.op .add (.var 6) (.tup (.cons false (.k (.int (9))) .nil))) (.cons false (.k (.int (3))) (.cons false (.k (.str [48])) (.cons false (.dnew .nil) (.cons false (.tup (.cons false (.k .non) .nil)) (.cons false (.tup (.cons false (.k (.str [48])) .nil)) (.cons false (.op .add (.slice (.var 6) .no (.yes (.neg (.k (.int (1)))))) (.tup (.cons false (.k (.bl true)) .nil))) (.cons false (.tup (.cons false (.neg (.k (.int (1)))) .nil)) (.cons false (.lst (.cons false (.tup .nil) .nil)) .nil))))))))))))))
 (.cons (.for_ (.one 10) (.e (.op .add (.var 9) (.lst (.cons false (.bi .tuple (.cons false (.comp (.call (x.f n_l_below) (.cons false (.var 1) (.cons false (.prop (x.c c_Kind) (x.f n_Kind_things) (.var 3)) .nil))) (.one 12) (.range1 (.call (x.f n_l_below) (.cons false (.var 1) (.cons false (.k (.int (4))) .nil)))) .no [12]) .nil)) .nil)))) (.cons (.set 11 false (.k .non))
 (.cons (.ite (.and (.bi (.isT .tuple x.obs) (.cons false (.var 10) .nil)) (.and (.op .mem (.var 10) (.var 4)) (.or (.op .nmem (.k (.bl true)) (.var 10)) (.notB (.sub (.var 10) (.neg (.k (.int (1))))) true)))) (.cons (.set 11 false (.sub (.var 4) (.var 10)))
 .nil) .nil)
 (.cons (.ite (.not (.call (x.f n_l_equal) (.cons false (.call (x.f n_weights_for) (.cons false (.var 3) (.cons false (.var 10) .nil))) (.cons false (.var 11) .nil)))) (.cons (.ret (.k (.bl false)))
 .nil) .nil)
 .nil))))
 .nil)))))))))
 (.cons (.ret (.k (.bl true)))
 .nil)))
def d_law_k21 (x : Ix) : Fd := ⟨1, 13, b_law_k21 x⟩
-- law_k21 0:script 1:d 2:turn 3:kind_here 4:known 5:order 6:row 7:lap 8:weights 9:odd 10:value 11:due 12:k
def b_l_told_k22 (x : Ix) : Ss := (.cons (.set 2 true (.lst .nil))
 (.cons (.try_ (.cons (.ex (.call (x.f n_fitting) (.cons false (.var 0) (.cons false (.var 1) .nil))))
 .nil) [⟨(x.c c_BadThings), none, (.app 2 (.k (.str [116, 104, 105, 110, 103, 115])))⟩, ⟨(x.c c_BadSeen), some 3, (.app 2 (.fld 0))⟩])
 (.cons (.ret (.var 2))
 .nil)))
def d_l_told_k22 (x : Ix) : Fd := ⟨2, 4, b_l_told_k22 x⟩
-- l_told_k22 0:things 1:seen 2:found 3:e
def b_l_kinds (x : Ix) : Ss := (.cons (.set 1 false (.lst (.cons false (.tup (.cons false (.tup .nil) .nil)) .nil)))
 (.cons (.for_ (.one 2) (.e (.call (x.f n_l_sets_k18) (.cons false (.var 0) .nil))) (.cons (.set 1 false (.op .add (.var 1) (.comp (.op .add (.var 3) (.tup (.cons false (.var 2) .nil))) (.one 3) (.e (.var 1)) .no [3])))
 .nil))
 (.cons (.ret (.comp (.mk (x.c c_Kind) (.cons false (.var 0) (.cons false (.var 3) .nil))) (.one 3) (.e (.var 1)) .no [3]))
 .nil)))
def d_l_kinds (x : Ix) : Fd := ⟨1, 4, b_l_kinds x⟩
-- l_kinds 0:things 1:found 2:some 3:lots
def b_law_k22 (x : Ix) : Ss := (.cons (.set 1 true (.call (x.f n_l_random) (.cons false (.var 0) (.cons false (.k (.int (2222))) .nil))))
 (.cons (.set 2 false (.call (x.f n_l_kind) (.cons false (.var 1) (.cons false (.k (.int (3))) .nil))))
 (.cons (.par 3 false 4 true (.prop (x.c c_Kind) (x.f n_Kind_things) (.var 2)) (.lst .nil))
 (.cons (.for_ (.one 5) (.range1 (.call (x.f n_l_below) (.cons false (.var 1) (.cons false (.k (.int (4))) .nil)))) (.cons (.set 6 false (.bi .tuple (.cons false (.comp (.op .sub (.call (x.f n_l_below) (.cons false (.var 1) (.cons false (.k (.int (7))) .nil))) (.k (.int (3)))) (.one 16) (.range1 (.var 3)) .no [16]) .nil)))
 (.cons (.set 7 false (.call (x.f n_l_taken_k18) (.cons false (.var 2) (.cons false (.var 6) .nil))))
 (.cons (.ex (.app (.var 4) (.tup (.cons false (.var 6) (.cons false (.ite (.op .gt (.call (x.f n_l_below) (.cons false (.var 1) (.cons false (.k (.int (6))) .nil))) (.k (.int (0)))) (.var 7) (.slice (.var 7) .no (.yes (.k (.int (1)))))) .nil)))))
 .nil))))
 (.cons (.set 8 true (.lst .nil))
 (.cons (.for_ (.one 9) (.e (.call (x.f n_l_kinds) (.cons false (.var 3) .nil))) (.cons (.ite (.op .eq (.comp (.var 17) (.one 17) (.e (.var 4)) (.yes (.op .ne (.call (x.f n_l_taken_k18) (.cons false (.var 9) (.cons false (.sub (.var 17) (.k (.int (0)))) .nil))) (.sub (.var 17) (.k (.int (1)))))) [17]) (.lst .nil)) (.cons (.ex (.app (.var 8) (.prop (x.c c_Kind) (x.f n_Kind_lots) (.var 9))))
 .nil) .nil)
 .nil))
 (.cons (.set 10 false (.comp (.var 18) (.one 18) (.e (.call (x.f n_l_sets_k18) (.cons false (.var 3) .nil))) (.yes (.and (.op .ne (.var 8) (.lst .nil)) (.op .eq (.comp (.var 19) (.one 19) (.e (.var 8)) (.yes (.op .nmem (.var 18) (.var 19))) [19]) (.lst .nil)))) [18]))
 (.cons (.set 11 false (.comp (.var 18) (.one 18) (.e (.call (x.f n_l_sets_k18) (.cons false (.var 3) .nil))) (.yes (.op .ne (.comp (.var 19) (.one 19) (.e (.var 8)) (.yes (.op .mem (.var 18) (.var 19))) [19]) (.lst .nil))) [18]))
 (.cons (.ite (.not (.call (x.f n_l_equal) (.cons false (.call (x.f n_fitting) (.cons false (.var 3) (.cons false (.call (x.f n_l_pick) (.cons false (.var 1) (.cons false (.lst (.cons false (.var 4) (.cons false (.bi .tuple (.cons false (.var 4) .nil)) .nil))) .nil))) .nil))) (.cons false (.tup (.cons false (.bi .len (.cons false (.var 8) .nil)) (.cons false (.var 10) (.cons false (.var 11) .nil)))) .nil)))) (.cons (.ret (.k (.bl false)))
 .nil) .nil)
 (.cons (.for_ (.one 12) (.e (.lst (.cons false (.k .non) (.cons false (.k (.int (0))) (.cons false (.k (.int (4))) (.cons false (.k (.str [49])) (.cons false (.k (.bl true)) .nil))))))) (.cons (.ite (.op .ne (.call (x.f n_l_told_k22) (.cons false (.var 12) (.cons false (.k .non) .nil))) (.lst (.cons false (.k (.str [116, 104, 105, 110, 103, 115])) .nil))) (.cons (.ret (.k (.bl false)))
 .nil) .nil)
 .nil))
 (.cons (.for_ (.one 12) (.e (.lst (.cons false (.k .non) (.cons false (.k (.int (3))) (.cons false (.k (.str [115, 101, 101, 110])) (.cons false (.dnew .nil) .nil)))))) (.cons (.ite (.op .ne (.call (x.f n_l_told_k22) (.cons false (.var 3) (.cons false (.var 12) .nil))) (.lst (.cons false (.k .non) .nil))) (.cons (.ret (.k (.bl false)))
 .nil) .nil)
 .nil))
 (.cons (.set 13 false (.op .mul (.tup (.cons false (.k (.int (0))) .nil)) (.var 3)))
 (.cons (.set 14 false (.lst (.cons false (.k .non) (.cons false (.tup .nil) (.cons false (.tup (.cons false (.var 13) .nil)) (.cons false (.tup (.cons false (.var 13) (.cons false (.tup .nil) (.cons false (.k (.int (0))) .nil)))) (.cons false (.lst (.cons false (.var 13) (.cons false (.tup .nil) .nil))) (.cons false (.tup (.cons false (.var 13) (.cons false (.lst .nil) .nil))) (.cons false (.tup (.cons false (.var 13) (.cons false (.tup (.cons false (.k (.int (0))) (.cons false (.k (.int (0))) .nil))) .nil))) (.cons false (.tup (.cons false (.var 13) (.cons false (.tup (.cons false (.var 3) .nil)) .nil))) (.cons false (.tup (.cons false (.var 13) (.cons false (.tup (.cons false (.k (.bl true)) .nil)) .nil))) .nil)))))))))))
 (.cons (.set 14 false (.op .add (.var 14) (.lst (.cons false (.tup (.cons false (.op .add (.var 13) (.tup (.cons false (.k (.int (0))) .nil))) (.cons false (.tup .nil) .nil))) (.cons false (.tup (.cons false (.bi .list (.cons false (.var 13) .nil)) (.cons false (.tup .nil) .nil))) (.cons false (.tup (.cons false (.op .add (.slice (.var 13) (.yes (.k (.int (1)))) .no) (.tup (.cons false (.k (.int (100))) .nil))) (.cons false (.tup .nil) .nil))) (.cons false (.tup (.cons false (.op .add (.slice (.var 13) (.yes (.k (.int (1)))) .no) (.tup (.cons false (.k (.bl true)) .nil))) (.cons false (.tup .nil) .nil))) (.cons false (.tup (.cons false (.k .non) (.cons false (.tup .nil) .nil))) .nil))))))))
 (.cons (.for_ (.one 15) (.e (.var 14)) (.cons (.ite (.op .ne (.call (x.f n_l_told_k22) (.cons false (.var 3) (.cons false (.op .add (.var 4) (.lst (.cons false (.var 15) (.cons false (.k .non) .nil)))) .nil))) (.lst (.cons false (.bi .len (.cons false (.var 4) .nil)) .nil))) (.cons (.ret (.k (.bl false)))
 .nil) .nil)
 .nil))
 (.cons (.ret (.k (.bl true)))
 .nil))))))))))))))))
def d_law_k22 (x : Ix) : Fd := ⟨1, 20, b_law_k22 x⟩
-- law_k22 0:script 1:d 2:kind_here 3:things 4:seen 5:k 6:weights 7:row 8:some 9:one 10:sure 11:possible 12:value 13:good 14:odd 15:bad 16:j 17:pair 18:lot 19:lots
def b_l_told_k23 (x : Ix) : Ss := (.cons (.set 2 false (.k (.str [])))
 (.cons (.try_ (.cons (.ex (.call (x.f n_how_many) (.cons false (.var 0) (.cons false (.var 1) .nil))))
 .nil) [⟨(x.c c_BadThings), none, (.set 2 (.k (.str [116, 104, 105, 110, 103, 115])))⟩, ⟨(x.c c_BadWord), none, (.set 2 (.k (.str [119, 111, 114, 100])))⟩])
 (.cons (.ret (.var 2))
 .nil)))
def d_l_told_k23 (x : Ix) : Fd := ⟨2, 3, b_l_told_k23 x⟩
-- l_told_k23 0:things 1:word 2:found
def b_l_good (x : Ix) : Ss := (.cons (.ite (.op .eq (.var 1) (.k (.str [97, 108, 119, 97, 121, 115]))) (.cons (.ret (.call (x.f n_always) (.cons false (.var 0) .nil)))
 .nil) .nil)
 (.cons (.ite (.op .eq (.var 1) (.k (.str [108, 101, 97, 115, 116]))) (.cons (.ret (.call (x.f n_always_least) (.cons false (.var 0) .nil)))
 .nil) .nil)
 (.cons (.ite (.op .eq (.var 1) (.k (.str [115, 116, 101, 112, 115]))) (.cons (.ret (.isN (.call (x.f n_steps) (.cons false (.var 0) .nil))))
 .nil) .nil)
 (.cons (.ite (.op .eq (.var 1) (.k (.str [101, 120, 116, 101, 110, 100, 115]))) (.cons (.ret (.isN (.call (x.f n_extends) (.cons false (.var 0) .nil))))
 .nil) .nil)
 (.cons (.ret (.ite (.op .eq (.var 1) (.k (.str [97, 103, 114, 101, 101, 115]))) (.isN (.call (x.f n_agrees) (.cons false (.var 0) .nil))) (.isN (.call (x.f n_spreads) (.cons false (.var 0) .nil)))))
 .nil)))))
def d_l_good (x : Ix) : Fd := ⟨2, 2, b_l_good x⟩
-- l_good 0:kind_here 1:word
def b_law_k23 (x : Ix) : Ss := (.cons (.set 1 true (.call (x.f n_l_random) (.cons false (.var 0) (.cons false (.k (.int (2323))) .nil))))
 (.cons (.set 2 false (.lst (.cons false (.k (.str [97, 103, 114, 101, 101, 115])) (.cons false (.k (.str [97, 108, 119, 97, 121, 115])) (.cons false (.k (.str [101, 120, 116, 101, 110, 100, 115])) (.cons false (.k (.str [108, 101, 97, 115, 116])) (.cons false (.k (.str [115, 112, 114, 101, 97, 100, 115])) (.cons false (.k (.str [115, 116, 101, 112, 115])) .nil))))))))
 (.cons (.par 3 false 4 false (.call (x.f n_l_pick) (.cons false (.var 1) (.cons false (.lst (.cons false (.k (.int (1))) (.cons false (.k (.int (2))) (.cons false (.k (.int (2))) (.cons false (.k (.int (3))) .nil))))) .nil))) (.call (x.f n_l_pick) (.cons false (.var 1) (.cons false (.var 2) .nil))))
 (.cons (.par 5 false 6 false (.lst (.cons false (.tup (.cons false (.tup .nil) .nil)) .nil)) (.k (.int (0))))
 (.cons (.for_ (.one 7) (.e (.call (x.f n_l_sets_k18) (.cons false (.var 3) .nil))) (.cons (.set 5 false (.op .add (.var 5) (.comp (.op .add (.var 8) (.tup (.cons false (.var 7) .nil))) (.one 8) (.e (.var 5)) .no [8])))
 .nil))
 (.cons (.for_ (.one 8) (.e (.var 5)) (.cons (.set 6 false (.op .add (.var 6) (.bi .int (.cons false (.call (x.f n_l_good) (.cons false (.mk (x.c c_Kind) (.cons false (.var 3) (.cons false (.var 8) .nil))) (.cons false (.var 4) .nil))) .nil))))
 .nil))
 (.cons (.ite (.not (.call (x.f n_l_equal) (.cons false (.call (x.f n_how_many) (.cons false (.var 3) (.cons false (.var 4) .nil))) (.cons false (.var 6) .nil)))) (.cons (.ret (.k (.bl false)))
 .nil) .nil)
 (.cons (.for_ (.one 9) (.e (.lst (.cons false (.k .non) (.cons false (.k (.int (0))) (.cons false (.k (.int (4))) (.cons false (.k (.str [49])) (.cons false (.k (.bl true)) .nil))))))) (.cons (.ite (.op .ne (.call (x.f n_l_told_k23) (.cons false (.var 9) (.cons false (.k .non) .nil))) (.k (.str [116, 104, 105, 110, 103, 115]))) (.cons (.ret (.k (.bl false)))
 .nil) .nil)
 .nil))
 (.cons (.set 10 false (.lst (.cons false (.k .non) (.cons false (.k (.str [])) (.cons false (.k (.str [65, 108, 119, 97, 121, 115])) (.cons false (.k (.str [115, 116, 101, 112])) (.cons false (.k (.int (3))) (.cons false (.tup (.cons false (.k (.str [97, 108, 119, 97, 121, 115])) .nil)) (.cons false (.lst (.cons false (.k (.str [97, 108, 119, 97, 121, 115])) .nil)) .nil)))))))))
 (.cons (.ret (.op .eq (.comp (.var 9) (.one 9) (.e (.var 10)) (.yes (.op .ne (.call (x.f n_l_told_k23) (.cons false (.k (.int (2))) (.cons false (.var 9) .nil))) (.k (.str [119, 111, 114, 100])))) [9]) (.lst .nil)))
 .nil))))))))))
def d_law_k23 (x : Ix) : Fd := ⟨1, 11, b_law_k23 x⟩
-- law_k23 0:script 1:d 2:words_so 3:things 4:word 5:found 6:many 7:some 8:lots 9:value 10:odd
def b_law_k24 (x : Ix) : Ss := (.cons (.set 1 true (.call (x.f n_l_random) (.cons false (.var 0) (.cons false (.k (.int (2424))) .nil))))
 (.cons (.set 2 false (.call (x.f n_l_kind) (.cons false (.var 1) (.cons false (.call (x.f n_l_pick) (.cons false (.var 1) (.cons false (.lst (.cons false (.k (.int (4))) (.cons false (.k (.int (4))) (.cons false (.k (.int (4))) (.cons false (.k (.int (5))) .nil))))) .nil))) .nil))))
 (.cons (.set 3 false (.bi .tuple (.cons false (.comp (.op .sub (.call (x.f n_l_below) (.cons false (.var 1) (.cons false (.k (.int (19))) .nil))) (.k (.int (9)))) (.one 7) (.range1 (.prop (x.c c_Kind) (x.f n_Kind_things) (.var 2))) .no [7]) .nil)))
 (.cons (.par 4 true 5 false (.mk (x.c c_Plan) (.cons false (.var 2) (.cons false (.var 3) .nil))) (.call (x.f n_taken) (.cons false (.var 2) (.cons false (.var 3) .nil))))
 (.cons (.for_ (.one 6) (.e (.var 5)) (.cons (.ite (.not (.call (x.f n_l_equal) (.cons false (.meth (x.c c_Plan) (x.f n_Plan_take) (.var 4) .nil) (.cons false (.var 6) .nil)))) (.cons (.ret (.k (.bl false)))
 .nil) .nil)
 .nil))
 (.cons (.ite (.or (.notN (.meth (x.c c_Plan) (x.f n_Plan_take) (.var 4) .nil)) (.or (.not (.call (x.f n_l_equal) (.cons false (.prop (x.c c_Plan) (x.f n_Plan_row) (.var 4)) (.cons false (.var 5) .nil)))) (.op .ne (.meth (x.c c_Plan) (x.f n_Plan_open_things) (.var 4) .nil) (.lst .nil)))) (.cons (.ret (.k (.bl false)))
 .nil) .nil)
 (.cons (.ite (.or (.op .nmem (.var 5) (.call (x.f n_rows_taken) (.cons false (.var 2) .nil))) (.op .ne (.call (x.f n_taken) (.cons false (.var 2) (.cons false (.call (x.f n_weights_for) (.cons false (.var 2) (.cons false (.var 5) .nil))) .nil))) (.var 5))) (.cons (.ret (.k (.bl false)))
 .nil) .nil)
 (.cons (.for_ (.one 7) (.range1 (.bi .len (.cons false (.var 5) .nil))) (.cons (.ite (.or (.notB (.meth (x.c c_Plan) (x.f n_Plan_undo) (.var 4) .nil) true) (.not (.call (x.f n_l_equal) (.cons false (.prop (x.c c_Plan) (x.f n_Plan_row) (.var 4)) (.cons false (.slice (.var 5) .no (.yes (.op .sub (.op .sub (.bi .len (.cons false (.var 5) .nil)) (.k (.int (1)))) (.var 7)))) .nil))))) (.cons (.ret (.k (.bl false)))
 .nil) .nil)
 .nil))
 (.cons (.ite (.or (.notB (.meth (x.c c_Plan) (x.f n_Plan_undo) (.var 4) .nil) false) (.op .ne (.bi .len (.cons false (.var 4) .nil)) (.k (.int (0))))) (.cons (.ret (.k (.bl false)))
 .nil) .nil)
 (.cons (.for_ (.one 7) (.range1 (.bi .len (.cons false (.var 5) .nil))) (.cons (.ite (.or (.notB (.meth (x.c c_Plan) (x.f n_Plan_redo) (.var 4) .nil) true) (.not (.call (x.f n_l_equal) (.cons false (.prop (x.c c_Plan) (x.f n_Plan_row) (.var 4)) (.cons false (.slice (.var 5) .no (.yes (.op .add (.var 7) (.k (.int (1)))))) .nil))))) (.cons (.ret (.k (.bl false)))
 .nil) .nil)
 .nil))
 (.cons (.set 8 false (.call (x.f n_nudged) (.cons false (.var 2) (.cons false (.var 3) .nil))))
 (.cons (.ite (.isN (.var 8)) (.cons (.ret (.isB (.meth (x.c c_Plan) (x.f n_Plan_redo) (.var 4) .nil) false))
 .nil) .nil)
 (.cons (.set 9 true (.mk (x.c c_Plan) (.cons false (.var 2) (.cons false (.var 3) .nil))))
 (.cons (.for_ (.one 6) (.range1 (.prop (x.c c_Kind) (x.f n_Kind_things) (.var 2))) (.cons (.ite (.op .lt (.bi .abs (.cons false (.sub (.var 8) (.var 6)) .nil)) (.k (.int (100)))) (.cons (.ex (.meth (x.c c_Plan) (x.f n_Plan_weigh) (.var 9) (.cons false (.var 6) (.cons false (.sub (.var 8) (.var 6)) .nil))))
 .nil) .nil)
 .nil))
 (.cons (.for_ (.one 7) (.range1 (.prop (x.c c_Kind) (x.f n_Kind_things) (.var 2))) (.cons (.ex (.meth (x.c c_Plan) (x.f n_Plan_take) (.var 9) .nil))
 .nil))
 (.cons (.ite (.and (.op .lt (.bi .max (.cons false (.comp (.bi .abs (.cons false (.var 10) .nil)) (.one 10) (.e (.var 8)) .no [10]) .nil)) (.k (.int (100)))) (.op .eq (.prop (x.c c_Plan) (x.f n_Plan_row) (.var 9)) (.var 5))) (.cons (.ret (.k (.bl false)))
 .nil) .nil)
 (.cons (.for_ (.one 7) (.range1 (.bi .len (.cons false (.var 9) .nil))) (.cons (.ex (.meth (x.c c_Plan) (x.f n_Plan_undo) (.var 9) .nil))
 .nil))
 (.cons (.ret (.and (.call (x.f n_l_equal) (.cons false (.prop (x.c c_Plan) (x.f n_Plan_weights) (.var 9)) (.cons false (.var 3) .nil))) (.and (.call (x.f n_l_equal) (.cons false (.prop (x.c c_Plan) (x.f n_Plan_row) (.var 9)) (.cons false (.tup .nil) .nil))) (.isB (.meth (x.c c_Plan) (x.f n_Plan_undo) (.var 9) .nil) false))))
 .nil))))))))))))))))))
def d_law_k24 (x : Ix) : Fd := ⟨1, 11, b_law_k24 x⟩
-- law_k24 0:script 1:d 2:kind_here 3:weights 4:plan 5:row 6:thing 7:k 8:other 9:later 10:one
def b_l_worst_told (x : Ix) : Ss := (.cons (.par 0 false 1 false (.call (x.f n_l_pick_kind) .nil) (.mk (x.c c_Kind) (.cons false (.k (.int (2))) (.cons false (.tup (.cons false (.tup .nil) (.cons false (.tup (.cons false (.k (.int (0))) .nil)) (.cons false (.tup (.cons false (.k (.int (1))) .nil)) .nil)))) .nil))))
 (.cons (.ite (.or (.op .ne (.call (x.f n_worst_share) (.cons false (.var 0) .nil)) (.tup (.cons false (.k (.int (1))) (.cons false (.k (.int (2))) .nil)))) (.op .ne (.call (x.f n_worst_case) (.cons false (.var 0) .nil)) (.tup (.cons false (.tup (.cons false (.k (.int (2))) (.cons false (.k (.int (0))) (.cons false (.k (.int (1))) .nil)))) (.cons false (.k (.int (3))) (.cons false (.tup (.cons false (.k (.int (0))) (.cons false (.k (.int (1))) .nil))) .nil)))))) (.cons (.ret (.k (.bl false)))
 .nil) .nil)
 (.cons (.ite (.or (.op .ne (.call (x.f n_worst_share) (.cons false (.var 1) .nil)) (.tup (.cons false (.k (.int (1))) (.cons false (.k (.int (1))) .nil)))) (.notN (.call (x.f n_worst_case) (.cons false (.var 1) .nil)))) (.cons (.ret (.k (.bl false)))
 .nil) .nil)
 (.cons (.ret (.and (.op .eq (.call (x.f n_worst_share) (.cons false (.mk (x.c c_Kind) (.cons false (.k (.int (2))) (.cons false (.tup (.cons false (.tup .nil) (.cons false (.tup (.cons false (.k (.int (0))) (.cons false (.k (.int (1))) .nil))) .nil))) .nil))) .nil)) (.tup (.cons false (.k (.int (0))) (.cons false (.k (.int (1))) .nil)))) (.op .eq (.call (x.f n_worst_case) (.cons false (.mk (x.c c_Kind) (.cons false (.k (.int (2))) (.cons false (.tup (.cons false (.tup .nil) (.cons false (.tup (.cons false (.k (.int (0))) (.cons false (.k (.int (1))) .nil))) .nil))) .nil))) .nil)) (.tup (.cons false (.tup (.cons false (.k (.int (0))) (.cons false (.k (.int (1))) .nil))) (.cons false (.k (.int (1))) (.cons false (.tup (.cons false (.k (.int (0))) (.cons false (.k (.int (1))) .nil))) .nil)))))))
 .nil))))
def d_l_worst_told (x : Ix) : Fd := ⟨0, 2, b_l_worst_told x⟩
-- l_worst_told 0:kind 1:plain
def b_l_margins_told (x : Ix) : Ss := (.cons (.set 0 false (.call (x.f n_l_pick_kind) .nil))
 (.cons (.ite (.or (.op .ne (.call (x.f n_margin) (.cons false (.var 0) (.cons false (.tup (.cons false (.k (.int (1))) (.cons false (.k (.int (5))) (.cons false (.k (.int (9))) .nil)))) .nil))) (.k (.int (2)))) (.op .ne (.call (x.f n_margin) (.cons false (.var 0) (.cons false (.tup (.cons false (.k (.int (5))) (.cons false (.k (.int (5))) (.cons false (.k (.int (0))) .nil)))) .nil))) (.k (.int (1))))) (.cons (.ret (.k (.bl false)))
 .nil) .nil)
 (.cons (.ite (.notN (.call (x.f n_margin) (.cons false (.mk (x.c c_Kind) (.cons false (.k (.int (2))) (.cons false (.tup (.cons false (.tup .nil) (.cons false (.tup (.cons false (.k (.int (0))) .nil)) (.cons false (.tup (.cons false (.k (.int (0))) (.cons false (.k (.int (1))) .nil))) .nil)))) .nil))) (.cons false (.tup (.cons false (.k (.int (4))) (.cons false (.k (.int (7))) .nil))) .nil)))) (.cons (.ret (.k (.bl false)))
 .nil) .nil)
 (.cons (.ite (.or (.not (.call (x.f n_right_fooling) (.cons false (.var 0) (.cons false (.tup (.cons false (.tup (.cons false (.k (.int (2))) (.cons false (.k (.int (2))) (.cons false (.k (.int (3))) .nil)))) (.cons false (.tup (.cons false (.k (.int (2))) .nil)) (.cons false (.tup (.cons false (.k (.int (0))) (.cons false (.k (.int (1))) .nil))) .nil)))) .nil)))) (.call (x.f n_right_fooling) (.cons false (.var 0) (.cons false (.tup (.cons false (.tup (.cons false (.k (.int (3))) (.cons false (.k (.int (2))) (.cons false (.k (.int (2))) .nil)))) (.cons false (.tup (.cons false (.k (.int (0))) (.cons false (.k (.int (1))) .nil))) (.cons false (.tup (.cons false (.k (.int (2))) .nil)) .nil)))) .nil)))) (.cons (.ret (.k (.bl false)))
 .nil) .nil)
 (.cons (.ret (.and (.call (x.f n_right_fooling_least) (.cons false (.var 0) (.cons false (.tup (.cons false (.tup (.cons false (.k (.int (3))) (.cons false (.k (.int (1))) (.cons false (.k (.int (2))) .nil)))) (.cons false (.tup (.cons false (.k (.int (0))) (.cons false (.k (.int (1))) .nil))) (.cons false (.tup (.cons false (.k (.int (2))) .nil)) .nil)))) .nil))) (.notN (.call (x.f n_nudged) (.cons false (.var 0) (.cons false (.tup (.cons false (.k (.int (1))) (.cons false (.k (.int (5))) (.cons false (.k (.int (9))) .nil)))) .nil))))))
 .nil)))))
def d_l_margins_told (x : Ix) : Fd := ⟨0, 1, b_l_margins_told x⟩
-- l_margins_told 0:kind
def b_l_rows_told (x : Ix) : Ss := (.cons (.set 0 false (.call (x.f n_l_pick_kind) .nil))
 (.cons (.ite (.or (.op .ne (.call (x.f n_rows_taken) (.cons false (.var 0) .nil)) (.lst (.cons false (.tup (.cons false (.k (.int (0))) (.cons false (.k (.int (1))) .nil))) (.cons false (.tup (.cons false (.k (.int (1))) (.cons false (.k (.int (0))) .nil))) (.cons false (.tup (.cons false (.k (.int (2))) .nil)) .nil))))) (.op .ne (.call (x.f n_weights_for) (.cons false (.var 0) (.cons false (.tup (.cons false (.k (.int (1))) (.cons false (.k (.int (0))) .nil))) .nil))) (.tup (.cons false (.k (.int (2))) (.cons false (.k (.int (3))) (.cons false (.k (.int (1))) .nil)))))) (.cons (.ret (.k (.bl false)))
 .nil) .nil)
 (.cons (.ite (.or (.notN (.call (x.f n_weights_for) (.cons false (.var 0) (.cons false (.tup (.cons false (.k (.int (0))) (.cons false (.k (.int (2))) .nil))) .nil)))) (.op .ne (.call (x.f n_fitting) (.cons false (.k (.int (1))) (.cons false (.lst .nil) .nil))) (.tup (.cons false (.k (.int (2))) (.cons false (.lst .nil) (.cons false (.lst (.cons false (.tup (.cons false (.k (.int (0))) .nil)) .nil)) .nil)))))) (.cons (.ret (.k (.bl false)))
 .nil) .nil)
 (.cons (.ite (.op .ne (.call (x.f n_fitting) (.cons false (.k (.int (2))) (.cons false (.lst (.cons false (.tup (.cons false (.tup (.cons false (.k (.int (5))) (.cons false (.k (.int (3))) .nil))) (.cons false (.tup (.cons false (.k (.int (0))) (.cons false (.k (.int (1))) .nil))) .nil))) .nil)) .nil))) (.tup (.cons false (.k (.int (2))) (.cons false (.lst (.cons false (.tup (.cons false (.k (.int (0))) .nil)) (.cons false (.tup (.cons false (.k (.int (0))) (.cons false (.k (.int (1))) .nil))) .nil))) (.cons false (.lst (.cons false (.tup (.cons false (.k (.int (0))) .nil)) (.cons false (.tup (.cons false (.k (.int (0))) (.cons false (.k (.int (1))) .nil))) (.cons false (.tup (.cons false (.k (.int (1))) .nil)) .nil)))) .nil))))) (.cons (.ret (.k (.bl false)))
 .nil) .nil)
 (.cons (.ret (.and (.op .eq (.call (x.f n_how_many) (.cons false (.k (.int (2))) (.cons false (.k (.str [97, 108, 119, 97, 121, 115])) .nil))) (.k (.int (7)))) (.op .eq (.call (x.f n_how_many) (.cons false (.k (.int (1))) (.cons false (.k (.str [115, 116, 101, 112, 115])) .nil))) (.k (.int (2))))))
 .nil)))))
def d_l_rows_told (x : Ix) : Fd := ⟨0, 1, b_l_rows_told x⟩
-- l_rows_told 0:kind
def b_law_k25 (x : Ix) : Ss := (.cons (.set 1 true (.call (x.f n_l_random) (.cons false (.var 0) (.cons false (.k (.int (2525))) .nil))))
 (.cons (.set 2 false (.call (x.f n_l_below) (.cons false (.var 1) (.cons false (.k (.int (3))) .nil))))
 (.cons (.ite (.op .eq (.var 2) (.k (.int (0)))) (.cons (.ret (.call (x.f n_l_worst_told) .nil))
 .nil) .nil)
 (.cons (.ret (.ite (.op .eq (.var 2) (.k (.int (1)))) (.call (x.f n_l_margins_told) .nil) (.call (x.f n_l_rows_told) .nil)))
 .nil))))
def d_law_k25 (x : Ix) : Fd := ⟨1, 3, b_law_k25 x⟩
-- law_k25 0:script 1:d 2:known
def tab (x : Ix) : List Fd := [d_BadLots___init__ x, d_is_integer x, d_is_from x, d_is_rising x, d_Kind___init__ x, d_Kind_things x, d_Kind_lots x, d_Kind___eq__ x, d_with_thing x, d_added x, d_is_lot x, d_adding x, d_full x, d_built x, d_check_weights x, d_next_thing x, d_taken_by x, d_taken x, d_best_of x, d_heaviest x, d_poorest x, d_richest x, d_orders x, d_falling x, d_short_of x, d_weights_against x, d_fooling x, d_always x, d_fooling_least x, d_always_least x] ++ [d_without_thing x, d_is_part x, d_steps x, d_extends x, d_lies_within x, d_parts_of x, d_agrees x, d_spreads x, d_can_grow x, d_BadLines___init__ x, d_is_pair x, d_check_lines x, d_ends_of x, d_forests x, d_grown x, d_check_most x, d_subsets x, d_strikes x, d_adds x, d_BadPairs___init__ x, d_paired x, d_worked x, d_joined x, d_closed_up x, d_check_thing x, d_without x, d_beside x, d_cut x, d_parting x, d_alike x] ++ [d_Plan___init__ x, d_Plan_kind x, d_Plan_weights x, d_Plan_row x, d_Plan_lot x, d_Plan___len__ x, d_Plan_become x, d_Plan_open_things x, d_Plan_put x, d_Plan_take x, d_Plan_weigh x, d_Plan_undo x, d_Plan_redo x, d_BadLine___init__ x, d_write x, d_number_at x, d_lot_of x, d_read x, d_BadSeen___init__ x, d_is_case x, d_is_full x, d_right_fooling x, d_right_fooling_least x, d_divisor x, d_is_less x, d_all_cases x, d_worst x, d_worst_share x, d_worst_case x, d_changes x] ++ [d_margin x, d_nudged x, d_rows_taken x, d_weights_for x, d_are_like x, d_all_sets x, d_all_kinds x, d_check_things x, d_is_row x, d_are_weights x, d_check_seen x, d_fitting x, d_is_good x, d_how_many x, d_l_random x, d_l_below x, d_l_pick x, d_l_equal x, d_l_parts x, d_l_with x, d_l_lots x, d_l_told x, d_law_k01 x, d_l_added x, d_l_full x, d_l_taken x, d_l_sum x, d_l_least x, d_l_weights x, d_l_built x] ++ [d_l_refused x, d_law_k02 x, d_l_refused_k03 x, d_law_k03 x, d_l_orders x, d_l_falling x, d_l_families x, d_l_always x, d_law_k04 x, d_law_k05 x, d_l_within x, d_l_steps x, d_l_extends x, d_l_agrees x, d_l_spreads x, d_l_first x, d_law_k06 x, d_l_holds x, d_l_closed x, d_law_k07 x, d_l_always_k08 x, d_l_sets x, d_l_smallest x, d_l_told_k08 x, d_law_k08 x, d_l_met x, d_l_ringless x, d_l_told_k09 x, d_l_lines_refused x, d_l_work x] ++ [d_law_k09 x, d_l_less x, d_l_told_k10 x, d_l_lessened x, d_law_k10 x, d_l_told_k11 x, d_law_k11 x, d_l_stands x, d_l_step x, d_law_k12 x, d_l_made x, d_l_told_k13 x, d_law_k13 x, d_l_lines x, d_law_k14 x, d_l_number x, d_l_first_line x, d_l_lot_line x, d_l_wrong x, d_l_spoilt x, d_l_told_k15 x, d_law_k15 x, d_l_one x, d_l_classes x, d_law_k16 x, d_l_pick_kind x, d_l_kinds_told x, d_l_taking_told x, d_l_conditions_told x, d_l_near_told x] ++ [d_l_forms_told x, d_l_joining_told x, d_law_k17 x, d_l_sets_k18 x, d_l_kind x, d_l_added_k18 x, d_l_taken_k18 x, d_l_full_k18 x, d_l_least_k18 x, d_law_k18 x, d_l_worst x, d_law_k19 x, d_l_told_k20 x, d_l_near x, d_l_nudges x, d_law_k20 x, d_law_k21 x, d_l_told_k22 x, d_l_kinds x, d_law_k22 x, d_l_told_k23 x, d_l_good x, d_law_k23 x, d_law_k24 x, d_l_worst_told x, d_l_margins_told x, d_l_rows_told x, d_law_k25 x]
end PB
set_option linter.all false
set_option Elab.async false
set_option maxRecDepth 100000
namespace PX_k10
open MI PB
def fL : List Nat := [0, 1, 2, 3, 4, 5, 6, 7, 999, 999, 999, 999, 999, 999, 999, 999, 999, 999, 999, 999, 999, 999, 999, 999, 999, 999, 999, 999, 999, 999, 8, 999, 999, 999, 999, 999, 999, 999, 999, 999] ++ [999, 999, 999, 999, 999, 999, 999, 999, 999, 999, 999, 999, 9, 10, 11, 12, 13, 14, 999, 999, 999, 999, 999, 999, 999, 999, 999, 999, 999, 999, 999, 999, 999, 999, 999, 999, 999, 999, 999, 999] ++ [999, 999, 999, 999, 999, 999, 999, 999, 999, 999, 999, 999, 999, 999, 999, 999, 999, 999, 999, 999, 999, 999, 999, 999, 15, 16, 17, 18, 19, 20, 21, 999, 999, 999, 999, 999, 999, 999, 999, 999] ++ [999, 999, 999, 999, 999, 999, 999, 999, 999, 999, 999, 999, 999, 999, 999, 999, 999, 999, 999, 999, 999, 999, 999, 999, 999, 999, 999, 999, 999, 999, 999, 22, 23, 24, 25, 999, 999, 999, 999, 999] ++ [999, 999, 999, 999, 999, 999, 999, 999, 999, 999, 999, 999, 999, 999, 999, 999, 999, 999, 999, 999, 999, 999, 999, 999, 999, 999, 999, 999, 999, 999, 999, 999, 999, 999, 999, 999, 999, 999, 999, 999] ++ [999, 999, 999, 999, 999, 999, 999, 999]
def cL : List Nat := [0, 1, 2, 6, 999, 999, 999, 999, 999, 3, 999, 4, 5, 999, 999, 999, 999, 999]
def gL : List Nat := [0, 999, 999, 999, 999, 999, 999, 999, 999]
def x : Ix := ⟨fun k => fL.getD k 999, fun k => cL.getD k 999, fun k => gL.getD k 999, [6]⟩
def fds : List Fd := [d_BadLots___init__ x, d_is_integer x, d_is_from x, d_is_rising x, d_Kind___init__ x, d_Kind_things x, d_Kind_lots x, d_Kind___eq__ x, d_without_thing x, d_joined x, d_closed_up x, d_check_thing x, d_without x, d_beside x, d_cut x, d_l_random x, d_l_below x, d_l_pick x, d_l_equal x, d_l_parts x, d_l_with x, d_l_lots x, d_l_less x, d_l_told_k10 x, d_l_lessened x, d_law_k10 x]
def globs : List D := [(.int (5))]
def ini : List Nat := [0, 0, 0, 0, 0, 0, 4]
def eqf : List Nat := []
def sub (c d : Nat) : Bool := [0, 1, 2, 3, 4, 5].any (· == c) && (c == d || d == 0)
def T : Txt := ⟨fds, globs, ini, eqf, sub, 200⟩
end PX_k10
set_option linter.all false
set_option Elab.async false
set_option maxRecDepth 100000
set_option maxHeartbeats 1000000
namespace PL
open MI PB
/-! ### evaluation, step by step -/
section
variable {α β : Type} {g : G} {ρ : Rho} {S : Sto}
@[simp] theorem bind_ok {a : α} {f : α → Sto → R β} : (R.ok a S).bind f = f a S := rfl
@[simp] theorem bind_exc {c : Nat} {fs : List D} {f : α → Sto → R β} : (R.exc c fs S : R α).bind f = .exc c fs S := rfl
@[simp] theorem bind_fail {f : α → Sto → R β} : (R.fail : R α).bind f = .fail := rfl
@[simp] theorem of_some {a : α} : R.of (some a) S = .ok a S := rfl
@[simp] theorem then_ok {a : α} {f : α → Sto → X} : (R.ok a S).then_ ρ f = f a S := rfl
@[simp] theorem then_exc {c : Nat} {fs : List D} {f : α → Sto → X} : (R.exc c fs S : R α).then_ ρ f = .exc c fs ρ S := rfl
@[simp] theorem tst_bl {b : Bool} : tst (.ok (.d (.bl b)) S) = .ok b S := rfl
@[simp] theorem hand_d {d : D} : (RV.d d).hand = some (.d d) := rfl
@[simp] theorem hand_r {k : Nat} : (RV.r k).hand = some (.r k) := rfl
@[simp] theorem hand_new {xs : List D} : (RV.new (.lst xs)).hand = some (.d (.lst xs)) := rfl
@[simp] theorem hand_inst {c : Nat} {xs : List D} : (RV.new (.inst c xs)).hand = some (.d (.obj c xs)) := rfl
@[simp] theorem see_d {d : D} : (RV.d d).see S = some d := rfl
@[simp] theorem see_new {xs : List D} : (RV.new (.lst xs)).see S = some (.lst xs) := rfl
@[simp] theorem see_inst {c : Nat} {xs : List D} : (RV.new (.inst c xs)).see S = some (.obj c xs) := rfl
@[simp] theorem data_d {d : D} : (RV.d d).data = some d := rfl
@[simp] theorem data_new {xs : List D} : (RV.new (.lst xs)).data = some (.lst xs) := rfl
@[simp] theorem data_inst {c : Nat} {xs : List D} : (RV.new (.inst c xs)).data = some (.obj c xs) := rfl
@[simp] theorem isTrue_bl {b : Bool} : (RV.d (.bl b)).isTrue = some b := rfl
@[simp] theorem ev_var {i : Nat} : ev g (.var i) ρ S = (match ρ[i]? with
    | some (some v) => .ok v S
    | _ => .fail) := by first | (rw [ev]; done) | (rw [ev]; rfl)
@[simp] theorem ev_k {d : D} : ev g (.k d) ρ S = .ok (.d d) S := by first | (rw [ev]; done) | (rw [ev]; rfl)
@[simp] theorem ev_glob {i : Nat} : ev g (.glob i) ρ S = R.of (g.globs[i]?.map .d) S := by first | (rw [ev]; done) | (rw [ev]; rfl)
@[simp] theorem ev_tup {es : Es} : ev g (.tup es) ρ S = (evh g es ρ S).bind fun vs S => R.of ((vs.mapM RV.data).bind fun ds => if ds.length ≤ lim then some (.d (.tup ds)) else none) S := by first | (rw [ev]; done) | (rw [ev]; rfl)
@[simp] theorem ev_lst {es : Es} : ev g (.lst es) ρ S = (evh g es ρ S).bind fun vs S => R.of ((vs.mapM RV.data).bind fun ds => if ds.length ≤ lim then some (.new (.lst ds)) else none) S := by first | (rw [ev]; done) | (rw [ev]; rfl)
@[simp] theorem ev_call {f : Nat} {es : Es} : ev g (.call f es) ρ S = (evh g es ρ S).bind fun vs S => g.call f vs S := by first | (rw [ev]; done) | (rw [ev]; rfl)
@[simp] theorem ev_mk {c : Nat} {es : Es} : ev g (.mk c es) ρ S = (evh g es ρ S).bind fun vs S => mkObj g c vs S := by first | (rw [ev]; done) | (rw [ev]; rfl)
@[simp] theorem ev_meth {c f : Nat} {a : E} {es : Es} : ev g (.meth c f a es) ρ S = (ev g a ρ S).bind fun x S => (R.of x.hand S).bind fun x S => if isObjOf S c x then (evh g es ρ S).bind fun vs S => g.call f (x :: vs) S else .fail := by first | (rw [ev]; done) | (rw [ev]; rfl)
@[simp] theorem ev_bi {b : Bi} {es : Es} : ev g (.bi b es) ρ S = (evh g es ρ S).bind fun vs S => R.of ((vs.mapM (RV.see S)).bind (biD g.sub b)) S := by first | (rw [ev]; done) | (rw [ev]; rfl)
@[simp] theorem ev_op {o : Op} {a b : E} : ev g (.op o a b) ρ S = (ev g a ρ S).bind fun x S => (R.of x.hand S).bind fun x S => (ev g b ρ S).bind fun y S => opR g o x y S := by first | (rw [ev]; done) | (rw [ev]; rfl)
@[simp] theorem ev_chain {o p : Op} {a b c : E} : ev g (.chain o p a b c) ρ S = (ev g a ρ S).bind fun x S => (R.of x.hand S).bind fun x S => (ev g b ρ S).bind fun y S => (R.of y.hand S).bind fun y S => (tst (opR g o x y S)).bind fun r S =>
      if r then (ev g c ρ S).bind fun z S => opR g p y z S else .ok (.d (.bl false)) S := by first | (rw [ev]; done) | (rw [ev]; rfl)
@[simp] theorem ev_isN {a : E} : ev g (.isN a) ρ S = (ev g a ρ S).bind fun x S => .ok (.d (.bl x.isNon)) S := by first | (rw [ev]; done) | (rw [ev]; rfl)
@[simp] theorem ev_notN {a : E} : ev g (.notN a) ρ S = (ev g a ρ S).bind fun x S => .ok (.d (.bl (!x.isNon))) S := by first | (rw [ev]; done) | (rw [ev]; rfl)
@[simp] theorem ev_isB {a : E} {b : Bool} : ev g (.isB a b) ρ S = (ev g a ρ S).bind fun x S => R.of (x.isTrue.map fun r => .d (.bl (r == b))) S := by first | (rw [ev]; done) | (rw [ev]; rfl)
@[simp] theorem ev_notB {a : E} {b : Bool} : ev g (.notB a b) ρ S = (ev g a ρ S).bind fun x S => R.of (x.isTrue.map fun r => .d (.bl (!(r == b)))) S := by first | (rw [ev]; done) | (rw [ev]; rfl)
@[simp] theorem ev_neg {a : E} : ev g (.neg a) ρ S = (ev g a ρ S).bind fun x S => (match x with
    | .d (.int i) => .ok (.d (.int (-i))) S
    | _ => .fail) := by first | (rw [ev]; done) | (rw [ev]; rfl)
@[simp] theorem ev_not {a : E} : ev g (.not a) ρ S = (tst (ev g a ρ S)).bind fun r S => .ok (.d (.bl (!r))) S := by first | (rw [ev]; done) | (rw [ev]; rfl)
@[simp] theorem ev_and {a b : E} : ev g (.and a b) ρ S = (tst (ev g a ρ S)).bind fun r S => if r then ev g b ρ S else .ok (.d (.bl false)) S := by first | (rw [ev]; done) | (rw [ev]; rfl)
@[simp] theorem ev_or {a b : E} : ev g (.or a b) ρ S = (tst (ev g a ρ S)).bind fun r S => if r then .ok (.d (.bl true)) S else ev g b ρ S := by first | (rw [ev]; done) | (rw [ev]; rfl)
@[simp] theorem ev_ite {c a b : E} : ev g (.ite c a b) ρ S = (tst (ev g c ρ S)).bind fun r S => if r then ev g a ρ S else ev g b ρ S := by first | (rw [ev]; done) | (rw [ev]; rfl)
@[simp] theorem ev_sub {a i : E} : ev g (.sub a i) ρ S = (ev g a ρ S).bind fun x S => (R.of x.hand S).bind fun x S => (ev g i ρ S).bind fun y S => R.of ((x.see S).bind fun a => (y.see S).bind fun b => (subD a b).map .d) S := by first | (rw [ev]; done) | (rw [ev]; rfl)
@[simp] theorem ev_slice {a : E} {lo hi : O} : ev g (.slice a lo hi) ρ S = (ev g a ρ S).bind fun x S => (R.of x.hand S).bind fun x S => (evP g lo ρ S).bind fun l S => (evP g hi ρ S).bind fun h S => R.of ((x.see S).bind (sliceD l h)) S := by first | (rw [ev]; done) | (rw [ev]; rfl)
@[simp] theorem ev_rev {a : E} : ev g (.rev a) ρ S = (ev g a ρ S).bind fun x S => R.of ((x.see S).bind revD) S := by first | (rw [ev]; done) | (rw [ev]; rfl)
@[simp] theorem ev_fld {c k : Nat} {a : E} : ev g (.fld c k a) ρ S = (ev g a ρ S).bind fun x S => R.of ((fldOf S c k x).map .d) S := by first | (rw [ev]; done) | (rw [ev]; rfl)
@[simp] theorem ev_prop {c f : Nat} {a : E} : ev g (.prop c f a) ρ S = (ev g a ρ S).bind fun x S => (R.of x.hand S).bind fun x S => if isObjOf S c x then (g.call f [x] S).noExc else .fail := by first | (rw [ev]; done) | (rw [ev]; rfl)
@[simp] theorem ev_pop {a : E} : ev g (.pop a) ρ S = (ev g a ρ S).bind fun x S => (match x with
    | .r n => popC S n none
    | _ => .fail) := by first | (rw [ev]; done) | (rw [ev]; rfl)
@[simp] theorem ev_popAt {a i : E} : ev g (.popAt a i) ρ S = (ev g a ρ S).bind fun x S => (match x with
    | .r n => if isL S n then (ev g i ρ S).bind fun y S => (match y with
      | .d (.int j) => popC S n (some j)
      | _ => .fail) else .fail
    | _ => .fail) := by first | (rw [ev]; done) | (rw [ev]; rfl)
@[simp] theorem ev_app {a e : E} : ev g (.app a e) ρ S = (ev g a ρ S).bind fun x S => (match x with
    | .r n => if isL S n then (ev g e ρ S).bind fun y S => (R.of y.data S).bind fun y S => appC S n [y] else .fail
    | _ => .fail) := by first | (rw [ev]; done) | (rw [ev]; rfl)
@[simp] theorem ev_ext {a e : E} : ev g (.ext a e) ρ S = (ev g a ρ S).bind fun x S => (match x with
    | .r n => if isL S n then (ev g e ρ S).bind fun y S => (R.of y.data S).bind fun y S => (match y with
      | .lst ys => appC S n ys
      | _ => .fail) else .fail
    | _ => .fail) := by first | (rw [ev]; done) | (rw [ev]; rfl)
@[simp] theorem ev_fstr {s : List Nat} {a : E} : ev g (.fstr s a) ρ S = (ev g a ρ S).bind fun x S => (match x with
    | .d (.int i) => if 0 ≤ i ∧ i < 10 then .ok (.d (.str (s ++ [i.toNat + 48]))) S else .fail
    | _ => .fail) := by first | (rw [ev]; done) | (rw [ev]; rfl)
@[simp] theorem ev_lrange {a : E} : ev g (.lrange a) ρ S = (ev g a ρ S).bind fun x S => (match x with
    | .d (.int n) => if rangeOk 0 n then .ok (.new (.lst (rangeD 0 n.toNat))) S else .fail
    | _ => .fail) := by first | (rw [ev]; done) | (rw [ev]; rfl)
@[simp] theorem evh_nil : evh g .nil ρ S = .ok [] S := by first | (rw [evh]; done) | (rw [evh]; rfl)
@[simp] theorem evh_cons {e : E} {r : Es} : evh g (.cons false e r) ρ S = (ev g e ρ S).bind fun v S => (R.of v.hand S).bind fun v S => (evh g r ρ S).bind fun vs S => .ok (v :: vs) S := by first | (rw [evh]; done) | (rw [evh]; rfl)
@[simp] theorem evh_star {e : E} {r : Es} : evh g (.cons true e r) ρ S = (ev g e ρ S).bind fun v S => (R.of v.hand S).bind fun v S => (R.of ((v.see S).bind D.seq) S).bind fun xs S => (evh g r ρ S).bind fun vs S => .ok (xs.map .d ++ vs) S := by first | (rw [evh]; done) | (rw [evh]; rfl)
@[simp] theorem evI_e {e : E} : evI g (.e e) ρ S = (ev g e ρ S).bind fun v S => R.of (srcOf S v) S := by first | (rw [evI]; done) | (rw [evI]; rfl)
@[simp] theorem evI_range1 {a : E} : evI g (.range1 a) ρ S = (ev g a ρ S).bind fun x S => (match x with
    | .d (.int n) => if rangeOk 0 n then .ok ⟨rangeD 0 n.toNat, none⟩ S else .fail
    | _ => .fail) := by first | (rw [evI]; done) | (rw [evI]; rfl)
@[simp] theorem evI_range2 {a b : E} : evI g (.range2 a b) ρ S = (ev g a ρ S).bind fun x S => (ev g b ρ S).bind fun y S => (match x, y with
    | .d (.int i), .d (.int j) => if rangeOk i j then .ok ⟨rangeD i (j - i).toNat, none⟩ S else .fail
    | _, _ => .fail) := by first | (rw [evI]; done) | (rw [evI]; rfl)
@[simp] theorem evI_enum {e : E} : evI g (.enum e) ρ S = (ev g e ρ S).bind fun v S => (match v.data with
    | some (.lst xs) => .ok ⟨enumD xs, none⟩ S
    | some (.tup xs) => .ok ⟨enumD xs, none⟩ S
    | _ => .fail) := by first | (rw [evI]; done) | (rw [evI]; rfl)
@[simp] theorem evI_zip {a b : E} : evI g (.zip a b) ρ S = (ev g a ρ S).bind fun x S => (R.of x.data S).bind fun x S => (ev g b ρ S).bind fun y S => (R.of y.data S).bind fun y S => (match x, y with
    | .lst xs, .lst ys => .ok ⟨zipD xs ys, none⟩ S
    | .tup xs, .tup ys => .ok ⟨zipD xs ys, none⟩ S
    | _, _ => .fail) := by first | (rw [evI]; done) | (rw [evI]; rfl)
@[simp] theorem evP_no : evP g .no ρ S = .ok none S := by first | (rw [evP]; done) | (rw [evP]; rfl)
@[simp] theorem evP_yes {e : E} : evP g (.yes e) ρ S = (ev g e ρ S).bind fun x S => (match x with
    | .d (.int i) => .ok (some i) S
    | _ => .fail) := by first | (rw [evP]; done) | (rw [evP]; rfl)
@[simp] theorem evO_no : evO g .no ρ S = .ok true S := by first | (rw [evO]; done) | (rw [evO]; rfl)
@[simp] theorem evO_yes {e : E} : evO g (.yes e) ρ S = tst (ev g e ρ S) := by first | (rw [evO]; done) | (rw [evO]; rfl)
@[simp] theorem exs_nil : exs g .nil ρ S = .nx ρ S := by first | (rw [exs]; done) | (rw [exs]; rfl)
@[simp] theorem exs_cons {s : MI.S} {r : Ss} : exs g (.cons s r) ρ S = (match ex g s ρ S with
    | .nx ρ1 S1 => exs g r ρ1 S1
    | x => x) := by first | (rw [exs]; done) | (rw [exs]; rfl)
@[simp] theorem ex_set {i : Nat} {box : Bool} {e : E} : ex g (.set i box e) ρ S = (ev g e ρ S).then_ ρ fun v S => setS i box v ρ S := by first | (rw [ex]; done) | (rw [ex]; rfl)
@[simp] theorem ex_unp {is : List Nat} {e : E} : ex g (.unp is e) ρ S = (ev g e ρ S).then_ ρ fun v S => (match v.data.bind D.seq with
    | some ds => (match setMany is ds ρ with
      | some ρ1 => .nx ρ1 S
      | none => .fail)
    | _ => .fail) := by first | (rw [ex]; done) | (rw [ex]; rfl)
@[simp] theorem ex_par {i j : Nat} {bi bj : Bool} {a b : E} : ex g (.par i bi j bj a b) ρ S = (ev g a ρ S).then_ ρ fun x S => (match setS i bi x ρ S with
    | .nx ρ1 S => (ev g b ρ S).then_ ρ fun y S => setS j bj y ρ1 S
    | _ => .fail) := by first | (rw [ex]; done) | (rw [ex]; rfl)
@[simp] theorem ex_par3 {i j k : Nat} {bi bj bk : Bool} {a b c : E} : ex g (.par3 i bi j bj k bk a b c) ρ S = (ev g a ρ S).then_ ρ fun x S => (match setS i bi x ρ S with
    | .nx ρ1 S => (ev g b ρ S).then_ ρ fun y S => (match setS j bj y ρ1 S with
      | .nx ρ2 S => (ev g c ρ S).then_ ρ fun z S => setS k bk z ρ2 S
      | _ => .fail)
    | _ => .fail) := by first | (rw [ex]; done) | (rw [ex]; rfl)
@[simp] theorem ex_setItem {o i e : E} : ex g (.setItem o i e) ρ S = (ev g e ρ S).then_ ρ fun v S => (R.of v.data S).then_ ρ fun d S => (ev g o ρ S).then_ ρ fun x S => (ev g i ρ S).then_ ρ fun y S => (match putC S x y d with
    | some S1 => .nx ρ S1
    | none => .fail) := by first | (rw [ex]; done) | (rw [ex]; rfl)
@[simp] theorem ex_setFld {c k : Nat} {o e : E} : ex g (.setFld c k o e) ρ S = (ev g e ρ S).then_ ρ fun v S => (R.of v.data S).then_ ρ fun d S => (ev g o ρ S).then_ ρ fun x S => (match putF S c k x d with
    | some S1 => .nx ρ S1
    | none => .fail) := by first | (rw [ex]; done) | (rw [ex]; rfl)
@[simp] theorem ex_ex {e : E} : ex g (.ex e) ρ S = (ev g e ρ S).then_ ρ fun _ S => .nx ρ S := by first | (rw [ex]; done) | (rw [ex]; rfl)
@[simp] theorem ex_ite {c : E} {a b : Ss} : ex g (.ite c a b) ρ S = (tst (ev g c ρ S)).then_ ρ fun r S => if r then exs g a ρ S else exs g b ρ S := by first | (rw [ex]; done) | (rw [ex]; rfl)
@[simp] theorem ex_ret {e : E} : ex g (.ret e) ρ S = (ev g e ρ S).then_ ρ fun v S => .ret v S := by first | (rw [ex]; done) | (rw [ex]; rfl)
@[simp] theorem ex_retN : ex g .retN ρ S = .ret (.d .non) S := by first | (rw [ex]; done) | (rw [ex]; rfl)
@[simp] theorem ex_raise {c : Nat} {es : Es} : ex g (.raise c es) ρ S = (evh g es ρ S).then_ ρ fun vs S => (R.of (vs.mapM RV.data) S).then_ ρ fun ds S => .exc c ds ρ S := by first | (rw [ex]; done) | (rw [ex]; rfl)
@[simp] theorem ex_pass : ex g .pass ρ S = .nx ρ S := by first | (rw [ex]; done) | (rw [ex]; rfl)
@[simp] theorem set_d {i : Nat} {b : Bool} {d : D} : setS i b (.d d) ρ S = .nx (ρ.set i (some (.d d))) S := rfl
@[simp] theorem set_r {i k : Nat} {b : Bool} : setS i b (.r k) ρ S = .nx (ρ.set i (some (.r k))) S := rfl
@[simp] theorem set_new {i : Nat} {xs : List D} : setS i false (.new (.lst xs)) ρ S = .nx (ρ.set i (some (.d (.lst xs)))) S := rfl
@[simp] theorem set_inst {i c : Nat} {xs : List D} : setS i false (.new (.inst c xs)) ρ S = .nx (ρ.set i (some (.d (.obj c xs)))) S := rfl
@[simp] theorem set_box {i : Nat} {c : Cell} : setS i true (.new c) ρ S = .nx (ρ.set i (some (.r S.length))) (S ++ [c]) := rfl
@[simp] theorem mapM_data {ds : List D} : (ds.map RV.d).mapM RV.data = some ds := by
  induction ds with
  | nil => rfl
  | cons d ds ih => rw [List.map_cons, List.mapM_cons, ih]; rfl
@[simp] theorem mapM_data2 {ds : List D} {e : D} : (ds.map RV.d ++ [RV.d e]).mapM RV.data = some (ds ++ [e]) := by
  have := mapM_data (ds := ds ++ [e])
  rw [List.map_append] at this
  exact this
@[simp] theorem fin_d {k : Nat} {d : D} : fin k (.d d) S = .ok (.d d) (S.take k) := rfl
@[simp] theorem fin_new {k : Nat} {c : Cell} : fin k (.new c) S = .ok (.new c) (S.take k) := rfl
@[simp] theorem G_call {T : Txt} {c : Nat → List RV → Sto → R RV} : (T.g c).call = c := rfl
@[simp] theorem G_globs {T : Txt} {c : Nat → List RV → Sto → R RV} : (T.g c).globs = T.globs := rfl
@[simp] theorem G_sub {T : Txt} {c : Nat → List RV → Sto → R RV} : (T.g c).sub = T.sub := rfl
@[simp] theorem G_init {T : Txt} {c : Nat → List RV → Sto → R RV} : (T.g c).init = T.init := rfl
/-- a loop's source -/
@[simp] theorem src_lst {xs : List D} : srcOf S (.d (.lst xs)) = some ⟨xs, none⟩ := rfl
@[simp] theorem src_tup {xs : List D} : srcOf S (.d (.tup xs)) = some ⟨xs, none⟩ := rfl
@[simp] theorem src_ro {xs : List D} : srcOf S (.d (.ro xs)) = some ⟨xs, none⟩ := rfl
@[simp] theorem src_new {xs : List D} : srcOf S (.new (.lst xs)) = some ⟨xs, none⟩ := rfl
@[simp] theorem still_none {xs : List D} : Src.still ⟨xs, none⟩ S = true := rfl
theorem still_none' {xs : List D} : Src.still ⟨xs, none⟩ = fun _ => true := rfl
@[simp] theorem seq_lst {xs : List D} : D.seq (.lst xs) = some xs := rfl
@[simp] theorem seq_tup {xs : List D} : D.seq (.tup xs) = some xs := rfl
end
/-! ### where a def stands -/
def Has (T : Txt) (x : Ix) (k : Nat) : Prop := T.fds[x.f k]? = (tab x)[k]?
def Hs (T : Txt) (x : Ix) (l : List Nat) : Prop := ∀ k ∈ l, Has T x k
theorem Hs.at {T : Txt} {x : Ix} {l : List Nat} (h : Hs T x l) {k : Nat} (m : k ∈ l) : Has T x k := h k m
theorem Hs.sub {T : Txt} {x : Ix} {l m : List Nat} (h : Hs T x l) (s : ∀ k ∈ m, k ∈ l) : Hs T x m := fun k hk => h k (s k hk)
theorem call_def {T : Txt} {x : Ix} {k n : Nat} {vs : List RV} {S : Sto} {fd : Fd} (h : Has T x k) (e : (tab x)[k]? = some fd) : callN T (n + 1) (x.f k) vs S = runF (T.g (callN T n)) fd vs S := by
  unfold callN
  have h' : T.fds[x.f k]? = some fd := by rw [← e]; exact h
  rw [h']
/-! ### comprehensions -/
section
variable {g : G} {ρ : Rho} {S : Sto}
theorem compL_pure {f : D → Sto → R Unit} {k : Nat} (p : D → Option D) (S0 : Sto) (hk : S0.length = k) : ∀ (xs acc : List D), acc.length + xs.length < lim → (∀ d ∈ xs, ∀ acc, acc.length < lim → f d (S0 ++ [.lst acc]) = .ok () (S0 ++ [.lst (acc ++ (p d).toList)])) →
    compL f (fun _ => true) xs (S0 ++ [.lst acc]) = .ok () (S0 ++ [.lst (acc ++ xs.filterMap p)])
  | [], acc, _, _ => by simp [compL]
  | d :: xs, acc, hl, h => by
    rw [List.length_cons] at hl
    unfold compL
    rw [if_pos rfl, h d List.mem_cons_self acc (by omega)]
    have hl2 : (acc ++ (p d).toList).length + xs.length < lim := by
      have : (p d).toList.length ≤ 1 := by cases p d <;> simp
      rw [List.length_append]; omega
    dsimp only
    rw [compL_pure p S0 hk xs _ hl2 fun e he => h e (List.mem_cons_of_mem _ he)]
    congr 3
    rw [List.append_assoc]
    congr 1
    cases e : p d <;> simp [e]
theorem push_last {S0 : Sto} {acc : List D} {d : D} (h : acc.length < lim) : pushC (S0 ++ [.lst acc]) S0.length d = .ok () (S0 ++ [.lst (acc ++ [d])]) := by
  unfold pushC
  simp [h]
theorem out_last {S0 : Sto} {c : Cell} : outC S0.length (S0 ++ [c]) = .ok (.new c) S0 := by
  unfold outC
  simp
theorem fm_eq (t : D → Bool) (e : D → D) : ∀ xs : List D, xs.filterMap (fun d => if t d then some (e d) else none) = (xs.filter t).map e
  | [] => rfl
  | d :: xs => by
    rw [List.filterMap_cons, List.filter_cons]
    cases h : t d <;> simp [fm_eq t e xs]
/-- [elt for tg in it if ifs], where the test and the element only look -/
theorem ev_comp {elt : E} {tg : Tg} {it : MI.I} {ifs : O} {own : List Nat} {xs : List D} (t : D → Bool) (e : D → D) (hi : evI g it ρ S = .ok ⟨xs, none⟩ S) (hl : xs.length < lim)
    (h : ∀ d ∈ xs, ∃ ρ1, bindT (wipe ρ own) tg d = some ρ1 ∧ ∀ S', evO g ifs ρ1 S' = .ok (t d) S' ∧ (t d = true → ∃ v, ev g elt ρ1 S' = .ok v S' ∧ v.data = some (e d))) :
    ev g (.comp elt tg it ifs own) ρ S = .ok (.new (.lst ((xs.filter t).map e))) S := by
  have e0 : ev g (.comp elt tg it ifs own) ρ S = (evI g it ρ S).bind fun s S => (compL (compW (wipe ρ own) tg (compTn (evO g ifs) (ev g elt) S.length)) s.still s.items (S ++ [.lst []])).bind fun _ S1 => outC S.length S1 := by first | (rw [ev]; done) | (rw [ev]; rfl)
  rw [e0, hi, bind_ok, still_none']
  rw [compL_pure (k := S.length) (fun d => if t d then some (e d) else none) S rfl xs [] (by simpa using hl) fun d hd acc ha => ?_]
  · rw [bind_ok, out_last, List.nil_append]
    rw [fm_eq]
  · obtain ⟨ρ1, h1, h2⟩ := h d hd
    unfold compW
    rw [h1]
    dsimp only
    unfold compTn
    rw [(h2 _).1, bind_ok]
    cases ht : t d with
    | true =>
      obtain ⟨v, h3, h4⟩ := (h2 (S ++ [.lst acc])).2 ht
      rw [if_pos rfl, h3, bind_ok, h4]
      simp only [of_some, bind_ok, if_pos, Option.toList]
      exact push_last ha
    | false => simp
end
end PL
set_option linter.all false
set_option Elab.async false
set_option maxRecDepth 100000
set_option maxHeartbeats 1000000
namespace PL
open MI PB
/-! ### plain data: ints, lots (ascending tuples of ints) -/
def Lo (l : List Int) : D := .tup (l.map .int)
theorem Lo_inj {a b : List Int} (h : Lo a = Lo b) : a = b := by
  unfold Lo at h
  injection h with h
  induction a generalizing b with
  | nil => cases b with
    | nil => rfl
    | cons y b => simp at h
  | cons x a ih => cases b with
    | nil => simp at h
    | cons y b =>
      rw [List.map_cons, List.map_cons] at h
      injection h with h1 h2
      injection h1 with h1
      rw [h1, ih h2]
theorem ints_inj {a b : List Int} (h : a.map D.int = b.map D.int) : a = b := Lo_inj (congrArg D.tup h)
@[simp] theorem plains_int (l : List Int) : D.plains (l.map .int) 60 = true := by
  induction l with
  | nil => rfl
  | cons i l ih => rw [List.map_cons, D.plains, ih]; rfl
theorem plains_intn (l : List Int) (n : Nat) : D.plains (l.map .int) n = true := by
  induction l with
  | nil => rfl
  | cons i l ih => rw [List.map_cons, D.plains, ih]; rfl
theorem plain_Lo (l : List Int) (n : Nat) : (Lo l).plain (n + 1) = true := by
  unfold Lo D.plain
  exact plains_intn l n
theorem plains_Lo (ls : List (List Int)) (n : Nat) : D.plains (ls.map Lo) (n + 1) = true := by
  induction ls with
  | nil => rfl
  | cons i l ih => rw [List.map_cons, D.plains, ih, plain_Lo]; rfl
theorem eqv_ints : ∀ a b : List Int, D.eqvs (a.map .int) (b.map .int) = decide (a = b)
  | [], [] => rfl
  | [], _ :: _ => rfl
  | _ :: _, [] => rfl
  | x :: a, y :: b => by
    rw [List.map_cons, List.map_cons, D.eqvs, eqv_ints a b]
    show (x == y && decide (a = b)) = _
    by_cases h : x = y <;> by_cases h2 : a = b <;> simp [h, h2]
theorem eqv_Lo (a b : List Int) : (Lo a).eqv (Lo b) = decide (a = b) := by
  unfold Lo D.eqv
  exact eqv_ints a b
theorem eqv_Los : ∀ a b : List (List Int), D.eqvs (a.map Lo) (b.map Lo) = decide (a = b)
  | [], [] => rfl
  | [], _ :: _ => rfl
  | _ :: _, [] => rfl
  | x :: a, y :: b => by
    rw [List.map_cons, List.map_cons, D.eqvs, eqv_Los a b, eqv_Lo]
    by_cases h : x = y <;> by_cases h2 : a = b <;> simp [h, h2]
@[simp] theorem mem_ints (i : Int) (l : List Int) : memD (.int i) (l.map .int) = some (decide (i ∈ l)) := by
  unfold memD
  rw [plains_int]
  show some _ = _
  congr 1
  induction l with
  | nil => rfl
  | cons x l ih =>
    rw [List.map_cons, List.any_cons, ih]
    show (x == i || decide (i ∈ l)) = _
    by_cases h : x = i
    · simp [h]
    · have : ¬ i = x := fun z => h z.symm
      simp [h, this]
@[simp] theorem mem_Los (a : List Int) (ls : List (List Int)) : memD (Lo a) (ls.map Lo) = some (decide (a ∈ ls)) := by
  unfold memD
  rw [plain_Lo, plains_Lo]
  show some _ = _
  congr 1
  induction ls with
  | nil => rfl
  | cons x l ih =>
    rw [List.map_cons, List.any_cons, ih, eqv_Lo]
    by_cases h : x = a
    · simp [h]
    · have : ¬ a = x := fun z => h z.symm
      simp [h, this]
/-! ### order -/
def ltL : List Int → List Int → Bool
  | [], [] => false
  | [], _ :: _ => true
  | _ :: _, [] => false
  | x :: a, y :: b => if x = y then ltL a b else decide (x < y)
theorem lts_ltL : ∀ a b : List Int, D.lts (a.map .int) (b.map .int) = ltL a b
  | [], [] => rfl
  | [], _ :: _ => rfl
  | _ :: _, [] => rfl
  | x :: a, y :: b => by
    rw [List.map_cons, List.map_cons, D.lts, lts_ltL a b]
    show (if (x == y) = true then ltL a b else decide (x < y)) = if x = y then ltL a b else decide (x < y)
    simp
theorem lt_Lo (a b : List Int) : (Lo a).lt (Lo b) = ltL a b := by
  unfold Lo D.lt
  exact lts_ltL a b
theorem ltL_irr : ∀ a : List Int, ltL a a = false
  | [] => rfl
  | x :: a => by unfold ltL; rw [if_pos rfl]; exact ltL_irr a
theorem ltL_asym : ∀ a b : List Int, ltL a b = true → ltL b a = false
  | [], [], h => by cases h
  | [], _ :: _, _ => rfl
  | _ :: _, [], h => by cases h
  | x :: a, y :: b, h => by
    unfold ltL at h ⊢
    by_cases e : x = y
    · subst e
      rw [if_pos rfl] at h ⊢
      exact ltL_asym a b h
    · rw [if_neg e] at h
      rw [if_neg (Ne.symm e)]
      simp at h ⊢
      omega
theorem ltL_tri : ∀ a b : List Int, ltL a b = false → ltL b a = false → a = b
  | [], [], _, _ => rfl
  | [], _ :: _, h, _ => by cases h
  | _ :: _, [], _, h => by cases h
  | x :: a, y :: b, h, h2 => by
    unfold ltL at h h2
    by_cases e : x = y
    · subst e
      rw [if_pos rfl] at h h2
      rw [ltL_tri a b h h2]
    · rw [if_neg e] at h
      rw [if_neg (Ne.symm e)] at h2
      simp at h h2
      omega
theorem ltL_tr : ∀ a b c : List Int, ltL a b = true → ltL b c = true → ltL a c = true
  | [], [], _, h, _ => by cases h
  | [], _ :: _, [], _, h => by cases h
  | [], _ :: _, _ :: _, _, _ => rfl
  | _ :: _, [], _, h, _ => by cases h
  | _ :: _, _ :: _, [], _, h => by cases h
  | x :: a, y :: b, z :: c, h, h2 => by
    unfold ltL at h h2 ⊢
    by_cases e : x = y
    · subst e
      rw [if_pos rfl] at h
      by_cases e2 : x = z
      · subst e2
        rw [if_pos rfl] at h2 ⊢
        exact ltL_tr a b c h h2
      · rw [if_neg e2] at h2 ⊢
        exact h2
    · rw [if_neg e] at h
      by_cases e2 : y = z
      · subst e2
        rw [if_neg e]
        exact h
      · rw [if_neg e2] at h2
        simp at h h2
        rw [if_neg (by omega)]
        simp; omega
/-- a total order, strictly -/
structure Tot {α : Type} (lt : α → α → Bool) : Prop where
  asym : ∀ a b, lt a b = true → lt b a = false
  tri : ∀ a b, lt a b = false → lt b a = false → a = b
  tr : ∀ a b c, lt a b = true → lt b c = true → lt a c = true
theorem totL : Tot ltL := ⟨ltL_asym, ltL_tri, ltL_tr⟩
theorem totI : Tot ltI := ⟨fun a b h => by unfold ltI at *; simp at *; omega, fun a b h h2 => by unfold ltI at *; simp at *; omega, fun a b c h h2 => by unfold ltI at *; simp at *; omega⟩
theorem Tot.irr {α : Type} {lt : α → α → Bool} (t : Tot lt) (a : α) : lt a a = false := by
  cases h : lt a a with
  | false => rfl
  | true => have := t.asym a a h; rw [h] at this; exact this
theorem Tot.swo {α : Type} {lt : α → α → Bool} (t : Tot lt) : SrtO.Swo lt := by
  refine ⟨t.asym, fun x y z h1 h2 => ?_⟩
  cases h : lt z x with
  | false => rfl
  | true =>
    cases h3 : lt x y with
    | true => have := t.tr z x y h h3; rw [h2] at this; cases this
    | false =>
      have := t.tri x y h3 h1
      subst this
      rw [h] at h2
      cases h2
theorem Tot.le_tr {α : Type} {lt : α → α → Bool} (t : Tot lt) {a b c : α} (h1 : lt b a = false) (h2 : lt c b = false) : lt c a = false := t.swo.tr a b c h1 h2
def sortL (ls : List (List Int)) : List (List Int) := sortA ltL ls
theorem sortD_Lo (ls : List (List Int)) : sortD (ls.map Lo) = (sortL ls).map Lo := by
  rw [sortD_eq]
  exact (sortA_map (lt := ltL) (lt' := D.lt) Lo (fun _ => True) (fun a b _ _ => lt_Lo a b) (fun _ _ => trivial)).2.symm
section
variable {α : Type} {lt : α → α → Bool}
theorem sortA_spec (t : Tot lt) (l : List α) : (sortA lt l).Pairwise (fun a b => lt b a = false) ∧ (sortA lt l).Perm l := by
  obtain ⟨q1, q2⟩ := sortA_ok t.swo l [] [] List.Pairwise.nil (SrtO.Stb.refl [])
  exact ⟨q1, q2.perm⟩
/-- without doubles: strictly ascending -/
theorem sortA_asc (t : Tot lt) {l : List α} (nd : l.Nodup) : (sortA lt l).Pairwise (fun a b => lt a b = true) := by
  obtain ⟨q1, q2⟩ := sortA_spec t l
  have n2 : (sortA lt l).Nodup := q2.nodup_iff.mpr nd
  refine (q1.and n2).imp fun {a b} q => ?_
  cases h : lt a b with
  | true => rfl
  | false => exact (q.2 (t.tri a b h q.1)).elim
theorem sortA_of_asc (t : Tot lt) {l : List α} (h : l.Pairwise (fun a b => lt a b = true)) : sortA lt l = l := by
  have h1 : SrtO.Srtd lt l := h.imp fun {a b} q => t.asym a b q
  exact (sortA_uniq t.swo h1 (SrtO.Stb.refl l)).symm
/-- two sorts of the same items, doubles aside -/
theorem sortA_perm (t : Tot lt) {l m : List α} (p : l.Perm m) : sortA lt l = sortA lt m := by
  obtain ⟨q1, q2⟩ := sortA_spec t l
  obtain ⟨q3, q4⟩ := sortA_spec t m
  have pp : (sortA lt l).Perm (sortA lt m) := q2.trans (p.trans q4.symm)
  clear q2 q4 p
  generalize sortA lt l = u at *
  generalize sortA lt m = v at *
  induction u generalizing v with
  | nil => exact (List.Perm.nil_eq pp)
  | cons a u ih =>
    cases v with
    | nil => exact absurd pp.length_eq (by simp)
    | cons b v =>
      obtain ⟨h1, h2⟩ := List.pairwise_cons.mp q1
      obtain ⟨h3, h4⟩ := List.pairwise_cons.mp q3
      have e : a = b := by
        rcases List.mem_cons.mp (pp.mem_iff.mp List.mem_cons_self) with z | z
        · exact z
        · rcases List.mem_cons.mp (pp.mem_iff.mpr (List.mem_cons_self (a := b))) with y | y
          · exact y.symm
          · exact t.tri a b (h1 b y |> fun q => by
              have := h3 a z
              exact this) (h1 b y)
      subst e
      rw [ih h2 v h4 (pp.cons_inv)]
/-- the least of a list -/
def Least (lt : α → α → Bool) (l : List α) (a : α) : Prop := a ∈ l ∧ ∀ b ∈ l, lt b a = false
theorem Least.uniq (t : Tot lt) {l m : List α} {a b : α} (h : Least lt l a) (h2 : Least lt m b) (e : ∀ c, c ∈ l ↔ c ∈ m) : a = b :=
  t.tri a b (h2.2 a ((e a).mp h.1)) (h.2 b ((e b).mpr h2.1))
theorem find_least (t : Tot lt) {p : α → Bool} : ∀ {l : List α}, l.Pairwise (fun a b => lt b a = false) → ∀ {a : α}, l.find? p = some a → Least lt (l.filter p) a
  | [], _, a, h => by simp at h
  | x :: l, q, a, h => by
    obtain ⟨h1, h2⟩ := List.pairwise_cons.mp q
    rw [List.find?_cons] at h
    cases hp : p x with
    | true =>
      rw [hp] at h
      cases h
      refine ⟨List.mem_filter.mpr ⟨List.mem_cons_self, hp⟩, fun b hb => ?_⟩
      rcases List.mem_cons.mp (List.mem_filter.mp hb).1 with rfl | z
      · exact t.irr b
      · exact h1 b z
    | false =>
      rw [hp] at h
      obtain ⟨h3, h4⟩ := find_least t h2 h
      refine ⟨List.mem_filter.mpr ⟨List.mem_cons_of_mem _ (List.mem_filter.mp h3).1, (List.mem_filter.mp h3).2⟩, fun b hb => ?_⟩
      obtain ⟨hb1, hb2⟩ := List.mem_filter.mp hb
      rcases List.mem_cons.mp hb1 with rfl | z
      · rw [hp] at hb2; cases hb2
      · exact h4 b (List.mem_filter.mpr ⟨z, hb2⟩)
end
/-! ### comparable -/
theorem cmps_ints : ∀ a b : List Int, D.cmps (a.map .int) (b.map .int) = true
  | [], _ => rfl
  | _ :: _, [] => rfl
  | x :: a, y :: b => by rw [List.map_cons, List.map_cons, D.cmps, cmps_ints a b]; rfl
theorem ords_ints (n : Nat) : ∀ a : List Int, D.ords (a.map .int) n = true
  | [] => rfl
  | x :: a => by rw [List.map_cons, D.ords, ords_ints n a]; rfl
theorem cmp_Lo (a b : List Int) : (Lo a).cmp (Lo b) = true := by
  unfold Lo D.cmp
  exact cmps_ints a b
theorem ord_Lo (a : List Int) (n : Nat) : (Lo a).ord (n + 1) = true := by
  unfold Lo D.ord
  exact ords_ints n a
theorem comparable_of' {xs : List D} (h1 : ∀ a ∈ xs, a.ord 20 = true) (h2 : ∀ a ∈ xs, ∀ b ∈ xs, a.cmp b = true) : comparable xs = true := by
  unfold comparable
  rw [List.all_eq_true]
  intro a ha
  rw [Bool.and_eq_true, List.all_eq_true]
  exact ⟨h1 a ha, fun b hb => h2 a ha b hb⟩
@[simp] theorem comparable_ints (l : List Int) : comparable (l.map .int) = true := comparable_of' (fun a ha => by
  obtain ⟨i, _, rfl⟩ := List.mem_map.mp ha; rfl) fun a ha b hb => by
  obtain ⟨i, _, rfl⟩ := List.mem_map.mp ha
  obtain ⟨j, _, rfl⟩ := List.mem_map.mp hb
  rfl
@[simp] theorem comparable_Lo (l : List (List Int)) : comparable (l.map Lo) = true := comparable_of' (fun a ha => by
  obtain ⟨i, _, rfl⟩ := List.mem_map.mp ha; exact ord_Lo i 19) fun a ha b hb => by
  obtain ⟨i, _, rfl⟩ := List.mem_map.mp ha
  obtain ⟨j, _, rfl⟩ := List.mem_map.mp hb
  exact cmp_Lo i j
@[simp] theorem sorted_lst (l : List Int) : sortedF [.lst (l.map .int)] = some (.new (.lst ((sortI l).map .int))) := (by show (if comparable (l.map .int) then some (RV.new (.lst (sortD (l.map .int)))) else none) = _; rw [comparable_ints, if_pos rfl, sortD_ints])
@[simp] theorem sorted_tup (l : List Int) : sortedF [.tup (l.map .int)] = some (.new (.lst ((sortI l).map .int))) := (by show (if comparable (l.map .int) then some (RV.new (.lst (sortD (l.map .int)))) else none) = _; rw [comparable_ints, if_pos rfl, sortD_ints])
@[simp] theorem sorted_Lo (l : List Int) : sortedF [Lo l] = some (.new (.lst ((sortI l).map .int))) := sorted_tup l
@[simp] theorem sorted_lsts (l : List (List Int)) : sortedF [.lst (l.map Lo)] = some (.new (.lst ((sortL l).map Lo))) := (by show (if comparable (l.map Lo) then some (RV.new (.lst (sortD (l.map Lo)))) else none) = _; rw [comparable_Lo, if_pos rfl, sortD_Lo])
@[simp] theorem sorted_tups (l : List (List Int)) : sortedF [.tup (l.map Lo)] = some (.new (.lst ((sortL l).map Lo))) := (by show (if comparable (l.map Lo) then some (RV.new (.lst (sortD (l.map Lo)))) else none) = _; rw [comparable_Lo, if_pos rfl, sortD_Lo])
@[simp] theorem ints_some (l : List Int) : ints? (l.map .int) = some l := by
  induction l with
  | nil => rfl
  | cons i l ih => rw [List.map_cons, ints?, ih]; rfl
@[simp] theorem bools_some (l : List Bool) : bools? (l.map .bl) = some l := by
  induction l with
  | nil => rfl
  | cons i l ih => rw [List.map_cons, bools?, ih]; rfl
theorem sortSet_tup {l : List Int} (h : l.length < 64) : sortSetF [.tup (l.map .int)] = some (.new (.lst ((sortI (ddI l)).map .int))) := by
  unfold sortSetF
  simp only [List.length_map, if_pos h, ints_some, Option.map_some, dedup_ints, sortD_ints]
/-! ### ranges -/
def rI (n : Nat) : List Int := (List.range n).map fun k => ((k : Nat) : Int)
theorem rangeD_eq (n : Nat) : rangeD 0 n = (rI n).map .int := by
  unfold rangeD rI
  rw [List.map_map]
  refine List.map_congr_left fun k _ => ?_
  simp
theorem mem_rI {n : Nat} {i : Int} : i ∈ rI n ↔ 0 ≤ i ∧ i < n := by
  unfold rI
  rw [List.mem_map]
  constructor
  · rintro ⟨k, h, rfl⟩
    rw [List.mem_range] at h
    omega
  · rintro ⟨h1, h2⟩
    exact ⟨i.toNat, by rw [List.mem_range]; omega, by omega⟩
theorem rI_asc (n : Nat) : (rI n).Pairwise (· < ·) := by
  unfold rI
  rw [List.pairwise_map]
  exact List.pairwise_lt_range.imp fun {a b} h => by omega
@[simp] theorem rI_len (n : Nat) : (rI n).length = n := by unfold rI; simp
end PL
set_option linter.all false
set_option Elab.async false
set_option maxRecDepth 100000
set_option maxHeartbeats 1000000
namespace PL
open MI PB
/-! ### operators on data -/
section
variable {g : G} {S : Sto} {o : Op}
@[simp] theorem op_i {i : Int} {y : D} : opR g o (.d (.int i)) (.d y) S = R.of (opD o (.int i) y) S := rfl
@[simp] theorem op_b {i : Bool} {y : D} : opR g o (.d (.bl i)) (.d y) S = R.of (opD o (.bl i) y) S := rfl
@[simp] theorem op_t {i : List D} {y : D} : opR g o (.d (.tup i)) (.d y) S = R.of (opD o (.tup i) y) S := rfl
@[simp] theorem op_l {i : List D} {y : D} : opR g o (.d (.lst i)) (.d y) S = R.of (opD o (.lst i) y) S := rfl
@[simp] theorem op_ln {i y : List D} : opR g o (.d (.lst i)) (.new (.lst y)) S = R.of (opD o (.lst i) (.lst y)) S := rfl
@[simp] theorem op_in {i : Int} {y : List D} : opR g o (.d (.int i)) (.new (.lst y)) S = R.of (opD o (.int i) (.lst y)) S := rfl
@[simp] theorem op_tn {i y : List D} : opR g o (.d (.tup i)) (.new (.lst y)) S = R.of (opD o (.tup i) (.lst y)) S := rfl
@[simp] theorem op_Lo {a : List Int} {y : D} : opR g o (.d (Lo a)) (.d y) S = R.of (opD o (Lo a) y) S := rfl
@[simp] theorem op_Lon {a : List Int} {y : List D} : opR g o (.d (Lo a)) (.new (.lst y)) S = R.of (opD o (Lo a) (.lst y)) S := rfl
@[simp] theorem add_i {i j : Int} : opD .add (.int i) (.int j) = some (.d (.int (i + j))) := rfl
@[simp] theorem sub_i {i j : Int} : opD .sub (.int i) (.int j) = some (.d (.int (i - j))) := rfl
@[simp] theorem lt_i {i j : Int} : opD .lt (.int i) (.int j) = some (.d (.bl (decide (i < j)))) := rfl
@[simp] theorem le_i {i j : Int} : opD .le (.int i) (.int j) = some (.d (.bl (decide (i ≤ j)))) := rfl
@[simp] theorem gt_i {i j : Int} : opD .gt (.int i) (.int j) = some (.d (.bl (decide (j < i)))) := rfl
@[simp] theorem ge_i {i j : Int} : opD .ge (.int i) (.int j) = some (.d (.bl (decide (j ≤ i)))) := rfl
@[simp] theorem eq_i {i j : Int} : opD .eq (.int i) (.int j) = some (.d (.bl (i == j))) := rfl
@[simp] theorem ne_i {i j : Int} : opD .ne (.int i) (.int j) = some (.d (.bl (!(i == j)))) := rfl
@[simp] theorem eq_b {i j : Bool} : opD .eq (.bl i) (.bl j) = some (.d (.bl (i == j))) := rfl
@[simp] theorem ne_b {i j : Bool} : opD .ne (.bl i) (.bl j) = some (.d (.bl (!(i == j)))) := rfl
@[simp] theorem mem_l {i : Int} {l : List Int} : opD .mem (.int i) (.lst (l.map .int)) = some (.d (.bl (decide (i ∈ l)))) := by
  show (memD (.int i) (l.map .int)).map _ = _; rw [mem_ints]; rfl
@[simp] theorem nmem_l {i : Int} {l : List Int} : opD .nmem (.int i) (.lst (l.map .int)) = some (.d (.bl (!decide (i ∈ l)))) := by
  show (memD (.int i) (l.map .int)).map _ = _; rw [mem_ints]; rfl
@[simp] theorem mem_Lo {i : Int} {l : List Int} : opD .mem (.int i) (Lo l) = some (.d (.bl (decide (i ∈ l)))) := by
  show (memD (.int i) (l.map .int)).map _ = _; rw [mem_ints]; rfl
@[simp] theorem nmem_Lo {i : Int} {l : List Int} : opD .nmem (.int i) (Lo l) = some (.d (.bl (!decide (i ∈ l)))) := by
  show (memD (.int i) (l.map .int)).map _ = _; rw [mem_ints]; rfl
@[simp] theorem mem_T {a : List Int} {ls : List (List Int)} : opD .mem (Lo a) (.tup (ls.map Lo)) = some (.d (.bl (decide (a ∈ ls)))) := by
  show (memD (Lo a) (ls.map Lo)).map _ = _; rw [mem_Los]; rfl
@[simp] theorem nmem_T {a : List Int} {ls : List (List Int)} : opD .nmem (Lo a) (.tup (ls.map Lo)) = some (.d (.bl (!decide (a ∈ ls)))) := by
  show (memD (Lo a) (ls.map Lo)).map _ = _; rw [mem_Los]; rfl
@[simp] theorem mem_TL {a : List Int} {ls : List (List Int)} : opD .mem (Lo a) (.lst (ls.map Lo)) = some (.d (.bl (decide (a ∈ ls)))) := by
  show (memD (Lo a) (ls.map Lo)).map _ = _; rw [mem_Los]; rfl
@[simp] theorem nmem_TL {a : List Int} {ls : List (List Int)} : opD .nmem (Lo a) (.lst (ls.map Lo)) = some (.d (.bl (!decide (a ∈ ls)))) := by
  show (memD (Lo a) (ls.map Lo)).map _ = _; rw [mem_Los]; rfl
theorem seqEq_p {a b : D} (h1 : a.plain 60 = true) (h2 : b.plain 60 = true) : seqEq a b = some (a.eqv b) := by
  unfold seqEq; rw [h1, h2]; rfl
@[simp] theorem eq_Lo {a b : List Int} : opD .eq (Lo a) (Lo b) = some (.d (.bl (decide (a = b)))) := by
  show (seqEq (Lo a) (Lo b)).map _ = _; rw [seqEq_p (plain_Lo a 59) (plain_Lo b 59), eqv_Lo]; rfl
@[simp] theorem ne_Lo {a b : List Int} : opD .ne (Lo a) (Lo b) = some (.d (.bl (!decide (a = b)))) := by
  show (seqEq (Lo a) (Lo b)).map _ = _; rw [seqEq_p (plain_Lo a 59) (plain_Lo b 59), eqv_Lo]; rfl
/-- .. == [] -/
theorem eq_nil {xs : List D} (h : D.plains xs 59 = true) : opD .eq (.lst xs) (.lst []) = some (.d (.bl xs.isEmpty)) := by
  have h1 : (D.lst xs).plain 60 = true := by unfold D.plain; exact h
  show (seqEq (.lst xs) (.lst [])).map _ = _
  rw [seqEq_p h1 rfl]
  cases xs <;> rfl
theorem ne_nil {xs : List D} (h : D.plains xs 59 = true) : opD .ne (.lst xs) (.lst []) = some (.d (.bl (!xs.isEmpty))) := by
  have h1 : (D.lst xs).plain 60 = true := by unfold D.plain; exact h
  show (seqEq (.lst xs) (.lst [])).map _ = _
  rw [seqEq_p h1 rfl]
  cases xs <;> rfl
@[simp] theorem eq_nilI {l : List Int} : opD .eq (.lst (l.map .int)) (.lst []) = some (.d (.bl l.isEmpty)) := by
  rw [eq_nil (plains_intn l 59)]; simp
@[simp] theorem ne_nilI {l : List Int} : opD .ne (.lst (l.map .int)) (.lst []) = some (.d (.bl (!l.isEmpty))) := by
  rw [ne_nil (plains_intn l 59)]; simp
@[simp] theorem eq_nilL {l : List (List Int)} : opD .eq (.lst (l.map Lo)) (.lst []) = some (.d (.bl l.isEmpty)) := by
  rw [eq_nil (plains_Lo l 58)]; simp
@[simp] theorem ne_nilL {l : List (List Int)} : opD .ne (.lst (l.map Lo)) (.lst []) = some (.d (.bl (!l.isEmpty))) := by
  rw [ne_nil (plains_Lo l 58)]; simp
@[simp] theorem ne_nilT {l : List Int} : opD .ne (Lo l) (.tup []) = some (.d (.bl (!l.isEmpty))) := by
  have : (D.tup [] : D) = Lo [] := rfl
  rw [this, ne_Lo]
  cases l <;> simp
theorem add_Lo {a b : List Int} (h : a.length + b.length ≤ lim) : opD .add (Lo a) (Lo b) = some (.d (Lo (a ++ b))) := by
  show (if (a.map D.int).length + (b.map D.int).length ≤ lim then some (RV.d (.tup (a.map .int ++ b.map .int))) else none) = _
  rw [if_pos (by simpa using h)]
  unfold Lo
  rw [List.map_append]
theorem add_lst {xs ys : List D} (h : xs.length + ys.length ≤ lim) : opD .add (.lst xs) (.lst ys) = some (.new (.lst (xs ++ ys))) := by
  show (if xs.length + ys.length ≤ lim then some (RV.new (.lst (xs ++ ys))) else none) = _
  rw [if_pos h]
@[simp] theorem src_Lo {a : List Int} : srcOf S (.d (Lo a)) = some ⟨a.map .int, none⟩ := rfl
@[simp] theorem seq_Lo {a : List Int} : D.seq (Lo a) = some (a.map .int) := rfl
@[simp] theorem bi_len {sub : Nat → Nat → Bool} : biD sub .len = lenD := rfl
@[simp] theorem bi_sum {sub : Nat → Nat → Bool} : biD sub .sum = sumD := rfl
@[simp] theorem bi_min {sub : Nat → Nat → Bool} : biD sub .min = minF := rfl
@[simp] theorem bi_max {sub : Nat → Nat → Bool} : biD sub .max = maxF := rfl
@[simp] theorem bi_all {sub : Nat → Nat → Bool} : biD sub .all = allF := rfl
@[simp] theorem bi_any {sub : Nat → Nat → Bool} : biD sub .any = anyF := rfl
@[simp] theorem bi_sorted {sub : Nat → Nat → Bool} : biD sub .sorted = sortedF := rfl
@[simp] theorem bi_tuple {sub : Nat → Nat → Bool} : biD sub .tuple = tupleF := rfl
@[simp] theorem bi_list {sub : Nat → Nat → Bool} : biD sub .list = listF := rfl
@[simp] theorem bi_int {sub : Nat → Nat → Bool} : biD sub .int = intF := rfl
@[simp] theorem bi_abs {sub : Nat → Nat → Bool} : biD sub .abs = absF := rfl
@[simp] theorem bi_sortSet {sub : Nat → Nat → Bool} : biD sub .sortSet = sortSetF := rfl
@[simp] theorem bi_isT {sub : Nat → Nat → Bool} {t : Ty} {obs : List Nat} : biD sub (.isT t obs) = isTF sub t obs := rfl
@[simp] theorem len_lst {xs : List D} : lenD [.lst xs] = some (.d (.int (xs.length : Nat))) := rfl
@[simp] theorem len_tup {xs : List D} : lenD [.tup xs] = some (.d (.int (xs.length : Nat))) := rfl
@[simp] theorem len_Lo {a : List Int} : lenD [Lo a] = some (.d (.int (a.length : Nat))) := by unfold Lo; rw [len_tup]; simp
@[simp] theorem tuple_lst {xs : List D} : tupleF [.lst xs] = some (.d (.tup xs)) := rfl
@[simp] theorem int_i {i : Int} : intF [.int i] = some (.d (.int i)) := rfl
@[simp] theorem abs_i {i : Int} : absF [.int i] = some (.d (.int (if i < 0 then -i else i))) := rfl
@[simp] theorem all_bl {l : List Bool} : allF [.lst (l.map .bl)] = some (.d (.bl (l.all id))) := by
  show (bools? (l.map .bl)).map _ = _; rw [bools_some]; rfl
@[simp] theorem any_bl {l : List Bool} : anyF [.lst (l.map .bl)] = some (.d (.bl (l.any id))) := by
  show (bools? (l.map .bl)).map _ = _; rw [bools_some]; rfl
theorem fold_Lo {l : List Int} : D.tup (l.map .int) = Lo l := rfl
end
@[simp] theorem lim_0 : (0 ≤ lim) = True := by simp [lim]
@[simp] theorem lim_1 : (1 ≤ lim) = True := by simp [lim]
@[simp] theorem lim_2 : (2 ≤ lim) = True := by simp [lim]
@[simp] theorem lim_3 : (3 ≤ lim) = True := by simp [lim]
@[simp] theorem lim_4 : (4 ≤ lim) = True := by simp [lim]
@[simp] theorem lim_5 : (5 ≤ lim) = True := by simp [lim]
@[simp] theorem lim_6 : (6 ≤ lim) = True := by simp [lim]
@[simp] theorem lim_7 : (7 ≤ lim) = True := by simp [lim]
@[simp] theorem lim_8 : (8 ≤ lim) = True := by simp [lim]
@[simp] theorem lim_9 : (9 ≤ lim) = True := by simp [lim]
@[simp] theorem lim_10 : (10 ≤ lim) = True := by simp [lim]
@[simp] theorem lim_11 : (11 ≤ lim) = True := by simp [lim]
@[simp] theorem lim_12 : (12 ≤ lim) = True := by simp [lim]
@[simp] theorem lim_13 : (13 ≤ lim) = True := by simp [lim]
@[simp] theorem lim_14 : (14 ≤ lim) = True := by simp [lim]
@[simp] theorem lim_15 : (15 ≤ lim) = True := by simp [lim]
section
variable {g : G} {ρ : Rho} {S : Sto} {α β : Type}
theorem ev_compM {elt : E} {tg : Tg} {it : MI.I} {ifs : O} {own : List Nat} (xs : List α) (c : α → D) (t : α → Bool) (e : α → D) (hi : evI g it ρ S = .ok ⟨xs.map c, none⟩ S) (hl : xs.length < lim)
    (h : ∀ a ∈ xs, ∃ ρ1, bindT (wipe ρ own) tg (c a) = some ρ1 ∧ ∀ S', evO g ifs ρ1 S' = .ok (t a) S' ∧ (t a = true → ∃ v, ev g elt ρ1 S' = .ok v S' ∧ v.data = some (e a))) :
    ev g (.comp elt tg it ifs own) ρ S = .ok (.new (.lst ((xs.filter t).map e))) S := by
  have e0 : ev g (.comp elt tg it ifs own) ρ S = (evI g it ρ S).bind fun s S => (compL (compW (wipe ρ own) tg (compTn (evO g ifs) (ev g elt) S.length)) s.still s.items (S ++ [.lst []])).bind fun _ S1 => outC S.length S1 := by rw [ev]
  rw [e0, hi, bind_ok, still_none']
  have main : ∀ (ys : List α) (acc : List D), (∀ a ∈ ys, a ∈ xs) → acc.length + ys.length < lim → compL (compW (wipe ρ own) tg (compTn (evO g ifs) (ev g elt) S.length)) (fun _ => true) (ys.map c) (S ++ [.lst acc]) = .ok () (S ++ [.lst (acc ++ (ys.filter t).map e)]) := by
    intro ys
    induction ys with
    | nil => intro acc _ _; simp [compL]
    | cons a ys ih =>
      intro acc hm hla
      rw [List.length_cons] at hla
      obtain ⟨ρ1, h1, h2⟩ := h a (hm a List.mem_cons_self)
      rw [List.map_cons]
      unfold compL
      rw [if_pos rfl]
      have step : compW (wipe ρ own) tg (compTn (evO g ifs) (ev g elt) S.length) (c a) (S ++ [.lst acc]) = .ok () (S ++ [.lst (acc ++ if t a then [e a] else [])]) := by
        unfold compW
        rw [h1]
        dsimp only
        unfold compTn
        rw [(h2 _).1, bind_ok]
        cases ht : t a with
        | true =>
          obtain ⟨v, h3, h4⟩ := (h2 (S ++ [.lst acc])).2 ht
          rw [if_pos rfl, h3, bind_ok, h4]
          simp only [of_some, bind_ok, if_pos]
          exact push_last (by omega)
        | false => simp
      rw [step]
      dsimp only
      rw [ih _ (fun b hb => hm b (List.mem_cons_of_mem _ hb)) (by split <;> simp <;> omega)]
      rw [List.filter_cons]
      cases t a <;> simp
  rw [main xs [] (fun _ h => h) (by simpa using hl), bind_ok, out_last, List.nil_append]
/-- a loop that goes to its end -/
theorem forL_nx {b : D → Rho → Sto → X} (P : List D → Rho → Sto → Prop) : ∀ (xs done : List D) (ρ : Rho) (S : Sto), P done ρ S →
    (∀ (dn : List D) (d : D) (ρ : Rho) (S : Sto), d ∈ xs → P dn ρ S → ∃ ρ' S', b d ρ S = .nx ρ' S' ∧ P (dn ++ [d]) ρ' S') → ∃ ρ' S', forL b (fun _ => true) xs ρ S = .nx ρ' S' ∧ P (done ++ xs) ρ' S'
  | [], done, ρ, S, h, _ => ⟨ρ, S, by simp [forL], by simpa using h⟩
  | d :: xs, done, ρ, S, h, st => by
    obtain ⟨ρ1, S1, e1, h1⟩ := st done d ρ S List.mem_cons_self h
    obtain ⟨ρ2, S2, e2, h2⟩ := forL_nx P xs (done ++ [d]) ρ1 S1 h1 fun dn d' ρ S hm hp => st dn d' ρ S (List.mem_cons_of_mem _ hm) hp
    refine ⟨ρ2, S2, ?_, by simpa using h2⟩
    unfold forL
    rw [if_pos rfl, e1]
    exact e2
/-- a loop that returns at the first find; the store stays -/
theorem forL_find {b : D → Rho → Sto → X} {f : D → Option D} (P : Rho → Prop) {S : Sto} : ∀ (xs : List D) (ρ : Rho), P ρ → (∀ d ∈ xs, ∀ ρ, P ρ → match f d with
    | some r => b d ρ S = .ret (.d r) S
    | none => ∃ ρ', b d ρ S = .nx ρ' S ∧ P ρ') → match xs.findSome? f with
    | some r => forL b (fun _ => true) xs ρ S = .ret (.d r) S
    | none => ∃ ρ', forL b (fun _ => true) xs ρ S = .nx ρ' S ∧ P ρ'
  | [], ρ, h, _ => ⟨ρ, by simp [forL], h⟩
  | d :: xs, ρ, h, st => by
    have h1 := st d List.mem_cons_self ρ h
    rw [List.findSome?_cons]
    cases hf : f d with
    | some r =>
      rw [hf] at h1
      dsimp only at h1 ⊢
      unfold forL
      rw [if_pos rfl, h1]
    | none =>
      rw [hf] at h1
      obtain ⟨ρ1, e1, p1⟩ := h1
      have h2 := forL_find P xs ρ1 p1 fun d' hm => st d' (List.mem_cons_of_mem _ hm)
      have e : forL b (fun _ => true) (d :: xs) ρ S = forL b (fun _ => true) xs ρ1 S := by
        rw [forL, if_pos rfl, e1]
      dsimp only
      rw [e]
      exact h2
theorem forL_findM {b : D → Rho → Sto → X} {c : α → D} {f : α → Option D} (P : Rho → Prop) {S : Sto} : ∀ (xs : List α) (ρ : Rho), P ρ → (∀ a ∈ xs, ∀ ρ, P ρ → match f a with
    | some r => b (c a) ρ S = .ret (.d r) S
    | none => ∃ ρ', b (c a) ρ S = .nx ρ' S ∧ P ρ') → match xs.findSome? f with
    | some r => forL b (fun _ => true) (xs.map c) ρ S = .ret (.d r) S
    | none => ∃ ρ', forL b (fun _ => true) (xs.map c) ρ S = .nx ρ' S ∧ P ρ'
  | [], ρ, h, _ => ⟨ρ, by simp [forL], h⟩
  | d :: xs, ρ, h, st => by
    have h1 := st d List.mem_cons_self ρ h
    rw [List.findSome?_cons]
    cases hf : f d with
    | some r =>
      rw [hf] at h1
      dsimp only at h1 ⊢
      rw [List.map_cons]
      unfold forL
      rw [if_pos rfl, h1]
    | none =>
      rw [hf] at h1
      obtain ⟨ρ1, e1, p1⟩ := h1
      have h2 := forL_findM P xs ρ1 p1 fun d' hm => st d' (List.mem_cons_of_mem _ hm)
      have e : forL b (fun _ => true) ((d :: xs).map c) ρ S = forL b (fun _ => true) (xs.map c) ρ1 S := by
        rw [List.map_cons, forL, if_pos rfl, e1]
      dsimp only
      rw [e]
      exact h2
/-- a loop that goes to its end, what it has done so far -/
theorem forL_nxM {b : D → Rho → Sto → X} {c : α → D} (all : List α) (P : List α → Rho → Sto → Prop) : ∀ (xs done : List α) (ρ : Rho) (S : Sto), all = done ++ xs → P done ρ S →
    (∀ (dn : List α) (a : α) (rest : List α) (ρ : Rho) (S : Sto), all = dn ++ a :: rest → P dn ρ S → ∃ ρ' S', b (c a) ρ S = .nx ρ' S' ∧ P (dn ++ [a]) ρ' S') → ∃ ρ' S', forL b (fun _ => true) (xs.map c) ρ S = .nx ρ' S' ∧ P all ρ' S'
  | [], done, ρ, S, e, h, _ => ⟨ρ, S, by simp [forL], by rw [e]; simpa using h⟩
  | d :: xs, done, ρ, S, e, h, st => by
    obtain ⟨ρ1, S1, e1, h1⟩ := st done d xs ρ S e h
    obtain ⟨ρ2, S2, e2, h2⟩ := forL_nxM all P xs (done ++ [d]) ρ1 S1 (by rw [e]; simp) h1 st
    refine ⟨ρ2, S2, ?_, h2⟩
    rw [List.map_cons]
    unfold forL
    rw [if_pos rfl, e1]
    exact e2
theorem ex_for {tg : Tg} {it : MI.I} {b : Ss} {xs : List D} (h : evI g it ρ S = .ok ⟨xs, none⟩ S) : ex g (.for_ tg it b) ρ S = forL (fun x ρ S => match bindT ρ tg x with
      | some ρ1 => exs g b ρ1 S
      | none => .fail) (fun _ => true) xs ρ S := by
  rw [ex, h, then_ok, still_none'] <;> rfl
@[simp] theorem bind_one {i : Nat} {d : D} : bindT ρ (.one i) d = some (ρ.set i (some (.d d))) := rfl
/-- how a search goes on -/
def foundX (r : Option D) (ρ : Rho) (S : Sto) : X := match r with
  | some r => .ret (.d r) S
  | none => .nx ρ S
theorem ex_find {i : Nat} {it : MI.I} {b : Ss} (P : Rho → Prop) (xs : List α) (c : α → D) (f : α → Option D) (h : evI g it ρ S = .ok ⟨xs.map c, none⟩ S) (hP : P ρ)
    (st : ∀ a ∈ xs, ∀ ρ, P ρ → ∃ ρ', P ρ' ∧ exs g b (ρ.set i (some (.d (c a)))) S = foundX (f a) ρ' S) : ∃ ρ', P ρ' ∧ ex g (.for_ (.one i) it b) ρ S = foundX (xs.findSome? f) ρ' S := by
  rw [ex_for h]
  have q := forL_findM (b := fun x ρ S => match bindT ρ (.one i) x with
      | some ρ1 => exs g b ρ1 S
      | none => .fail) (c := c) (f := f) P (S := S) xs ρ hP fun a ha ρ hp => by
    obtain ⟨ρ', h1, h2⟩ := st a ha ρ hp
    cases e : f a with
    | some r => rw [e] at h2; exact h2
    | none => rw [e] at h2; exact ⟨ρ', h2, h1⟩
  cases e : xs.findSome? f with
  | some r => rw [e] at q; exact ⟨ρ, hP, q⟩
  | none =>
    rw [e] at q
    obtain ⟨ρ', h1, h2⟩ := q
    exact ⟨ρ', h2, h1⟩
/-- a search, then what follows: goal by goal -/
theorem exs_find {i : Nat} {it : MI.I} {b r : Ss} {Y : X} (P : Rho → Prop) (xs : List α) (c : α → D) (f : α → Option D) (h : evI g it ρ S = .ok ⟨xs.map c, none⟩ S) (hP : P ρ)
    (st : ∀ a ∈ xs, ∀ ρ, P ρ → ∃ ρ', P ρ' ∧ exs g b (ρ.set i (some (.d (c a)))) S = foundX (f a) ρ' S)
    (k1 : ∀ v, xs.findSome? f = some v → X.ret (.d v) S = Y) (k2 : ∀ ρ', P ρ' → xs.findSome? f = none → exs g r ρ' S = Y) : exs g (.cons (.for_ (.one i) it b) r) ρ S = Y := by
  obtain ⟨ρ', h1, h2⟩ := ex_find P xs c f h hP st
  rw [exs_cons, h2]
  cases e : xs.findSome? f with
  | some v => exact k1 v e
  | none => exact k2 ρ' h1 e
/-- a search at the end of a body -/
theorem exs_find1 {i : Nat} {it : MI.I} {b : Ss} (P : Rho → Prop) (xs : List α) (c : α → D) (f : α → Option D) (h : evI g it ρ S = .ok ⟨xs.map c, none⟩ S) (hP : P ρ)
    (st : ∀ a ∈ xs, ∀ ρ, P ρ → ∃ ρ', P ρ' ∧ exs g b (ρ.set i (some (.d (c a)))) S = foundX (f a) ρ' S) : ∃ ρ', P ρ' ∧ exs g (.cons (.for_ (.one i) it b) .nil) ρ S = foundX (xs.findSome? f) ρ' S := by
  obtain ⟨ρ', h1, h2⟩ := ex_find P xs c f h hP st
  refine ⟨ρ', h1, ?_⟩
  rw [exs_cons, h2]
  cases e : xs.findSome? f with
  | some v => rfl
  | none => simp [foundX]
theorem ex_loop {i : Nat} {it : MI.I} {b : Ss} (P : List α → Rho → Sto → Prop) (xs : List α) (c : α → D) (h : evI g it ρ S = .ok ⟨xs.map c, none⟩ S) (hP : P [] ρ S)
    (st : ∀ (dn : List α) (a : α) (rest : List α) (ρ : Rho) (S : Sto), xs = dn ++ a :: rest → P dn ρ S → ∃ ρ' S', exs g b (ρ.set i (some (.d (c a)))) S = .nx ρ' S' ∧ P (dn ++ [a]) ρ' S') : ∃ ρ' S', ex g (.for_ (.one i) it b) ρ S = .nx ρ' S' ∧ P xs ρ' S' := by
  rw [ex_for h]
  exact forL_nxM (b := fun x ρ S => match bindT ρ (.one i) x with
      | some ρ1 => exs g b ρ1 S
      | none => .fail) (c := c) xs P xs [] ρ S rfl hP fun dn a rest ρ S ha hp => st dn a rest ρ S ha hp
theorem exs_loop {i : Nat} {it : MI.I} {b r : Ss} {Q : X → Prop} (P : List α → Rho → Sto → Prop) (xs : List α) (c : α → D) (h : evI g it ρ S = .ok ⟨xs.map c, none⟩ S) (hP : P [] ρ S)
    (st : ∀ (dn : List α) (a : α) (rest : List α) (ρ : Rho) (S : Sto), xs = dn ++ a :: rest → P dn ρ S → ∃ ρ' S', exs g b (ρ.set i (some (.d (c a)))) S = .nx ρ' S' ∧ P (dn ++ [a]) ρ' S')
    (k : ∀ ρ' S', P xs ρ' S' → Q (exs g r ρ' S')) : Q (exs g (.cons (.for_ (.one i) it b) r) ρ S) := by
  obtain ⟨ρ', S', h1, h2⟩ := ex_loop P xs c h hP st
  rw [exs_cons, h1]
  exact k ρ' S' h2
theorem run_d {fd : Fd} {vs : List RV} {d : D} (hl : vs.length = fd.np) (h : exs g fd.body (vs.map some ++ List.replicate (fd.nn - fd.np) none) S = .ret (.d d) S) : runF g fd vs S = .ok (.d d) S := by
  unfold runF
  rw [if_pos hl, h]
  simp
theorem run_new {fd : Fd} {vs : List RV} {c : Cell} (hl : vs.length = fd.np) (h : exs g fd.body (vs.map some ++ List.replicate (fd.nn - fd.np) none) S = .ret (.new c) S) : runF g fd vs S = .ok (.new c) S := by
  unfold runF
  rw [if_pos hl, h]
  simp
@[simp] theorem ite_bl {p : Prop} [Decidable p] {a b : Bool} : (if p then R.ok (RV.d (.bl a)) S else R.ok (RV.d (.bl b)) S) = R.ok (RV.d (.bl (if p then a else b))) S := by split <;> rfl
theorem exs_ifret {c e : E} {b : Bool} {d : D} (hc : tst (ev g c ρ S) = .ok b S) (he : b = true → ev g e ρ S = .ok (.d d) S) : exs g (.cons (.ite c (.cons (.ret e) .nil) .nil) .nil) ρ S = foundX (if b then some d else none) ρ S := by
  rw [exs_cons, ex_ite, hc, then_ok]
  cases b with
  | true => simp [he rfl, foundX]
  | false => simp [foundX]
theorem findSome_if {p : α → Bool} {f : α → D} : ∀ xs : List α, xs.findSome? (fun a => if p a then some (f a) else none) = (xs.find? p).map f
  | [] => rfl
  | a :: xs => by
    rw [List.findSome?_cons, List.find?_cons]
    cases h : p a
    · simpa using findSome_if xs
    · rfl
def optD : Option D → D
  | some d => d
  | none => .non
/-- a search, None at its end -/
theorem exs_findN {i : Nat} {it : MI.I} {b : Ss} {o : Option D} (P : Rho → Prop) (xs : List α) (c : α → D) (f : α → Option D) (h : evI g it ρ S = .ok ⟨xs.map c, none⟩ S) (hP : P ρ)
    (st : ∀ a ∈ xs, ∀ ρ, P ρ → ∃ ρ', P ρ' ∧ exs g b (ρ.set i (some (.d (c a)))) S = foundX (f a) ρ' S) (ho : xs.findSome? f = o) :
    exs g (.cons (.for_ (.one i) it b) (.cons (.ret (.k .non)) .nil)) ρ S = .ret (.d (optD o)) S := by
  subst ho
  refine exs_find P xs c f h hP st (fun v hv => ?_) fun ρ' hp hn => ?_
  · rw [hv]; rfl
  · rw [hn]; simp [optD]
theorem tst_and' {a b : E} {p q : Bool} (ha : tst (ev g a ρ S) = .ok p S) (hb : p = true → tst (ev g b ρ S) = .ok q S) : tst (ev g (.and a b) ρ S) = .ok (p && q) S := by
  rw [ev_and, ha, bind_ok]
  cases p with
  | true => rw [if_pos rfl, hb rfl]; rfl
  | false => rfl
theorem tst_or' {a b : E} {p q : Bool} (ha : tst (ev g a ρ S) = .ok p S) (hb : p = false → tst (ev g b ρ S) = .ok q S) : tst (ev g (.or a b) ρ S) = .ok (p || q) S := by
  rw [ev_or, ha, bind_ok]
  cases p with
  | true => rfl
  | false => rw [if_neg (by simp), hb rfl]; rfl
theorem tst_not' {a : E} {p : Bool} (ha : tst (ev g a ρ S) = .ok p S) : tst (ev g (.not a) ρ S) = .ok (!p) S := by
  rw [ev_not, ha]; rfl
theorem tst_of {a : E} {p : Bool} (ha : ev g a ρ S = .ok (.d (.bl p)) S) : tst (ev g a ρ S) = .ok p S := by rw [ha]; rfl
theorem ev_bool {a : E} {p : Bool} (ha : tst (ev g a ρ S) = .ok p S) (h : ∃ q, ev g a ρ S = .ok (.d (.bl q)) S) : ev g a ρ S = .ok (.d (.bl p)) S := by
  obtain ⟨q, e⟩ := h
  rw [e] at ha
  cases ha
  exact e
theorem ev_compB {elt : E} {tg : Tg} {it : MI.I} {own : List Nat} (xs : List α) (c : α → D) (p : α → Bool) (hi : evI g it ρ S = .ok ⟨xs.map c, none⟩ S) (hl : xs.length < lim)
    (h : ∀ a ∈ xs, ∃ ρ1, bindT (wipe ρ own) tg (c a) = some ρ1 ∧ ∀ S', ev g elt ρ1 S' = .ok (.d (.bl (p a))) S') : ev g (.comp elt tg it .no own) ρ S = .ok (.new (.lst ((xs.map p).map .bl))) S := by
  rw [ev_compM xs c (fun _ => true) (fun a => D.bl (p a)) hi hl fun a ha => by
    obtain ⟨ρ1, h1, h2⟩ := h a ha
    exact ⟨ρ1, h1, fun S' => ⟨evO_no, fun _ => ⟨_, h2 S', rfl⟩⟩⟩]
  rw [List.filter_eq_self.mpr (fun _ _ => rfl), List.map_map]; rfl
theorem ev_anyC {elt : E} {tg : Tg} {it : MI.I} {own : List Nat} (xs : List α) (c : α → D) (p : α → Bool) (hi : evI g it ρ S = .ok ⟨xs.map c, none⟩ S) (hl : xs.length < lim)
    (h : ∀ a ∈ xs, ∃ ρ1, bindT (wipe ρ own) tg (c a) = some ρ1 ∧ ∀ S', ev g elt ρ1 S' = .ok (.d (.bl (p a))) S') : ev g (.bi .any (.cons false (.comp elt tg it .no own) .nil)) ρ S = .ok (.d (.bl (xs.any p))) S := by
  rw [ev_bi, evh_cons, ev_compB xs c p hi hl h]
  simp [-List.map_map, List.any_map, Function.comp_def]
theorem ev_allC {elt : E} {tg : Tg} {it : MI.I} {own : List Nat} (xs : List α) (c : α → D) (p : α → Bool) (hi : evI g it ρ S = .ok ⟨xs.map c, none⟩ S) (hl : xs.length < lim)
    (h : ∀ a ∈ xs, ∃ ρ1, bindT (wipe ρ own) tg (c a) = some ρ1 ∧ ∀ S', ev g elt ρ1 S' = .ok (.d (.bl (p a))) S') : ev g (.bi .all (.cons false (.comp elt tg it .no own) .nil)) ρ S = .ok (.d (.bl (xs.all p))) S := by
  rw [ev_bi, evh_cons, ev_compB xs c p hi hl h]
  simp [-List.map_map, List.all_map, Function.comp_def]
/-- one argument -/
theorem evh_1 {a : E} {v w : RV} (h : ev g a ρ S = .ok v S) (hh : v.hand = some w) : evh g (.cons false a .nil) ρ S = .ok [w] S := by
  rw [evh_cons, h]; simp [hh]
/-- a call with a value as its last argument .. -/
theorem set_lst {i : Nat} {e : E} {r : Ss} {xs : List D} {Q : X → Prop} (h : ev g e ρ S = .ok (.new (.lst xs)) S) (k : Q (exs g r (ρ.set i (some (.d (.lst xs)))) S)) : Q (exs g (.cons (.set i false e) r) ρ S) := by
  rw [exs_cons, ex_set, h]; exact k
theorem set_val {i : Nat} {b : Bool} {e : E} {r : Ss} {d : D} {Q : X → Prop} (h : ev g e ρ S = .ok (.d d) S) (k : Q (exs g r (ρ.set i (some (.d d))) S)) : Q (exs g (.cons (.set i b e) r) ρ S) := by
  rw [exs_cons, ex_set, h]; exact k
theorem set_lstE {i : Nat} {e : E} {r : Ss} {xs : List D} {P : Rho → Prop} {o : Option D} (h : ev g e ρ S = .ok (.new (.lst xs)) S) (k : ∃ ρ', P ρ' ∧ exs g r (ρ.set i (some (.d (.lst xs)))) S = foundX o ρ' S) : ∃ ρ', P ρ' ∧ exs g (.cons (.set i false e) r) ρ S = foundX o ρ' S := by
  rw [exs_cons, ex_set, h]; exact k
theorem set_valE {i : Nat} {b : Bool} {e : E} {r : Ss} {d : D} {P : Rho → Prop} {o : Option D} (h : ev g e ρ S = .ok (.d d) S) (k : ∃ ρ', P ρ' ∧ exs g r (ρ.set i (some (.d d))) S = foundX o ρ' S) : ∃ ρ', P ρ' ∧ exs g (.cons (.set i b e) r) ρ S = foundX o ρ' S := by
  rw [exs_cons, ex_set, h]; exact k
/-- an inner search: what is known of the slots outside goes on -/
theorem exs_find2 {i : Nat} {it : MI.I} {b : Ss} {P' : Rho → Prop} (P : Rho → Prop) (xs : List α) (c : α → D) (f : α → Option D) (h : evI g it ρ S = .ok ⟨xs.map c, none⟩ S) (hP : P ρ)
    (st : ∀ a ∈ xs, ∀ ρ, P ρ → ∃ ρ', P ρ' ∧ exs g b (ρ.set i (some (.d (c a)))) S = foundX (f a) ρ' S) (w : ∀ ρ, P ρ → P' ρ) : ∃ ρ', P' ρ' ∧ exs g (.cons (.for_ (.one i) it b) .nil) ρ S = foundX (xs.findSome? f) ρ' S := by
  obtain ⟨ρ', h1, h2⟩ := exs_find1 P xs c f h hP st
  exact ⟨ρ', w ρ' h1, h2⟩
theorem ev_op' {o : Op} {a b : E} {v v' w r : RV} (ha : ev g a ρ S = .ok v S) (hv : v.hand = some v') (hb : ev g b ρ S = .ok w S) (ho : opR g o v' w S = .ok r S) : ev g (.op o a b) ρ S = .ok r S := by
  rw [ev_op, ha, bind_ok, hv, of_some, bind_ok, hb, bind_ok, ho]
theorem ev_tupStar {a b : E} {l : List Int} {t : Int} (ha : ev g a ρ S = .ok (.d (Lo l)) S) (hb : ev g b ρ S = .ok (.d (.int t)) S) (hl : l.length + 1 ≤ lim) : ev g (.tup (.cons true a (.cons false b .nil))) ρ S = .ok (.d (Lo (l ++ [t]))) S := by
  rw [ev_tup, evh_star, ha]
  simp only [bind_ok, hand_d, of_some, see_d, Option.bind_some, seq_Lo, evh_cons, hb, evh_nil]
  rw [show (List.map RV.d (l.map D.int) ++ [RV.d (D.int t)]) = ((l ++ [t]).map D.int).map RV.d by simp, mapM_data, Option.bind_some, if_pos (by simpa using hl)]
  rfl
theorem ev_lstStar {a b : E} {l : List Int} {t : Int} (ha : ev g a ρ S = .ok (.d (Lo l)) S) (hb : ev g b ρ S = .ok (.d (.int t)) S) (hl : l.length + 1 ≤ lim) : ev g (.lst (.cons true a (.cons false b .nil))) ρ S = .ok (.new (.lst ((l ++ [t]).map .int))) S := by
  rw [ev_lst, evh_star, ha]
  simp only [bind_ok, hand_d, of_some, see_d, Option.bind_some, seq_Lo, evh_cons, hb, evh_nil]
  rw [show (List.map RV.d (l.map D.int) ++ [RV.d (D.int t)]) = ((l ++ [t]).map D.int).map RV.d by simp, mapM_data, Option.bind_some, if_pos (by simpa using hl)]
  rfl
end
end PL
set_option linter.all false
set_option Elab.async false
set_option maxRecDepth 100000
set_option maxHeartbeats 1000000
namespace PL
open MI PB
theorem le_lim {n : Nat} (h : n ≤ 100000) : n ≤ lim := by show n ≤ 16777216; omega
theorem lt_lim {n : Nat} (h : n ≤ 100000) : n < lim := by show n < 16777216; omega
/-! ### the program: kinds -/
section
variable {T : Txt} {x : Ix} {n : Nat} {S : Sto}
def isInt : D → Bool
  | .int _ => true
  | _ => false
def fromB (lo hi : Int) : D → Bool
  | .int i => decide (lo ≤ i) && decide (i ≤ hi)
  | _ => false
theorem is_integer_ok (H : Hs T x [n_is_integer]) {v : D} (ho : objOk x.obs v = true) : callN T (n + 1) (x.f n_is_integer) [.d v] S = .ok (.d (.bl (isInt v))) S := by
  rw [call_def (H.at (by simp)) rfl]
  simp [runF, d_is_integer, b_is_integer, isTF, ho]
  cases v <;> simp [isTy, isInt]
theorem is_from_ok (H : Hs T x [n_is_integer, n_is_from]) {v : D} {lo hi : Int} (ho : objOk x.obs v = true) : callN T (n + 2) (x.f n_is_from) [.d v, .d (.int lo), .d (.int hi)] S = .ok (.d (.bl (fromB lo hi v))) S := by
  rw [call_def (H.at (by simp)) rfl]
  simp [runF, d_is_from, b_is_from, is_integer_ok (H.sub (by simp)) ho]
  cases v <;> simp [isInt, fromB]
/-- lots of at most m things -/
def Lot (m : Nat) (l : List Int) : Prop := (∀ i ∈ l, 0 ≤ i ∧ i < (m : Int)) ∧ l.Pairwise (· < ·)
theorem Lot.len {m : Nat} {l : List Int} (h : Lot m l) : l.length ≤ m := by
  have := nodup_le (l := l) (m := rI m) (h.2.imp fun {a b} q => by omega) fun k hk => mem_rI.mpr (h.1 k hk)
  simpa using this
def withT (l : List Int) (t : Int) : List Int := sortI (l ++ [t])
theorem with_thing_ok (H : Hs T x [n_with_thing]) {l : List Int} {t : Int} (hl : l.length < 1000) : callN T (n + 1) (x.f n_with_thing) [.d (Lo l), .d (.int t)] S = .ok (.d (Lo (withT l t))) S := by
  rw [call_def (H.at (by simp)) rfl]
  have hl2 : l.length + 1 ≤ lim := le_lim (by omega)
  have e : (l.map D.int ++ [D.int t]) = (l ++ [t]).map D.int := by simp
  have e2 : (((l.map D.int).map RV.d) ++ [RV.d (D.int t)]).mapM RV.data = some ((l ++ [t]).map D.int) := by rw [mapM_data2, e]
  simp [runF, d_with_thing, b_with_thing, -List.map_map, -List.mapM_append, -List.mapM_map, e2, hl2, -List.map_append]
  simp [fold_Lo, withT]
def Kd (x : Ix) (m : Nat) (told : List (List Int)) : D := .obj (x.c c_Kind) [.int m, .tup (told.map Lo)]
@[simp] theorem kd_many {m : Nat} {told : List (List Int)} : fldOf S (x.c c_Kind) 0 (.d (Kd x m told)) = some (.int m) := by
  simp [fldOf, Kd]
@[simp] theorem kd_told {m : Nat} {told : List (List Int)} : fldOf S (x.c c_Kind) 1 (.d (Kd x m told)) = some (.tup (told.map Lo)) := by
  simp [fldOf, Kd]
def addedL (m : Nat) (told : List (List Int)) (l : List Int) : List Int := (rI m).filter fun t => !decide (t ∈ l) && decide (withT l t ∈ told)
theorem range_ok {m : Nat} (h : m ≤ 1000) : rangeOk 0 (m : Int) = true := by
  unfold rangeOk
  simp; omega
theorem evI_rI {g : G} {ρ : Rho} {a : E} {m : Nat} (h : ev g a ρ S = .ok (.d (.int m)) S) (hm : m ≤ 1000) : evI g (.range1 a) ρ S = .ok ⟨(rI m).map .int, none⟩ S := by
  rw [evI_range1, h, bind_ok]
  show (if rangeOk 0 (m : Int) = true then R.ok (Src.mk (rangeD 0 (m : Int).toNat) none) S else R.fail) = _
  rw [if_pos (range_ok hm), Int.toNat_natCast, rangeD_eq]
theorem ev_rL {g : G} {ρ : Rho} {a : E} {m : Nat} (h : ev g a ρ S = .ok (.d (.int m)) S) (hm : m ≤ 1000) : ev g (.lrange a) ρ S = .ok (.new (.lst ((rI m).map .int))) S := by
  rw [ev_lrange, h, bind_ok]
  show (if rangeOk 0 (m : Int) = true then R.ok (RV.new (.lst (rangeD 0 (m : Int).toNat))) S else R.fail) = _
  rw [if_pos (range_ok hm), Int.toNat_natCast, rangeD_eq]
theorem added_ok (H : Hs T x [n_with_thing, n_added]) {m : Nat} (hm : m ≤ 5) {told : List (List Int)} {l : List Int} (hl : l.length < 1000) : callN T (n + 2) (x.f n_added) [.d (Kd x m told), .d (Lo l)] S = .ok (.new (.lst ((addedL m told l).map .int))) S := by
  rw [call_def (H.at (by simp)) rfl]
  simp only [runF, d_added, b_added, exs_cons, ex_ret]
  rw [ev_compM (xs := rI m) (c := D.int) (t := fun t => !decide (t ∈ l) && decide (withT l t ∈ told)) (e := D.int)]
  · simp [addedL]
  · exact evI_rI (by simp) (by omega)
  · rw [rI_len]; exact lt_lim (by omega)
  · intro a ha
    refine ⟨_, rfl, fun S' => ⟨?_, fun _ => ?_⟩⟩
    · simp [wipe]
      by_cases h : a ∈ l
      · simp [h]
      · simp [h, with_thing_ok (H.sub (by simp)) hl]
    · simp [wipe]
structure KOk (m : Nat) (told : List (List Int)) : Prop where
  hm : m ≤ 5
  lot : ∀ l ∈ told, Lot m l
  len : told.length ≤ 1000
theorem KOk.small {m : Nat} {told : List (List Int)} (k : KOk m told) {l : List Int} (h : l ∈ told) : l.length < 1000 := by
  have := (k.lot l h).len
  have := k.hm
  omega
def fullL (m : Nat) (told : List (List Int)) : List (List Int) := told.filter fun l => (addedL m told l).isEmpty
theorem full_ok (H : Hs T x [n_with_thing, n_added, n_full]) {m : Nat} {told : List (List Int)} (k : KOk m told) : callN T (n + 3) (x.f n_full) [.d (Kd x m told)] S = .ok (.new (.lst ((fullL m told).map Lo))) S := by
  rw [call_def (H.at (by simp)) rfl]
  simp only [runF, d_full, b_full, exs_cons, ex_ret]
  rw [ev_compM (xs := told) (c := Lo) (t := fun l => (addedL m told l).isEmpty) (e := Lo)]
  · simp [fullL]
  · simp
  · exact lt_lim (by have := k.len; omega)
  · intro a ha
    refine ⟨_, rfl, fun S' => ⟨?_, fun _ => ?_⟩⟩
    · simp [wipe, added_ok (H.sub (by simp)) k.hm (k.small ha)]
      cases addedL m told a with
      | nil => simp
      | cons i r => simp; omega
    · simp [wipe]
def withoutT (l : List Int) (t : Int) : List Int := l.filter fun i => !(i == t)
theorem without_ok (H : Hs T x [n_without_thing]) {l : List Int} {t : Int} (hl : l.length < 1000) : callN T (n + 1) (x.f n_without_thing) [.d (Lo l), .d (.int t)] S = .ok (.d (Lo (withoutT l t))) S := by
  rw [call_def (H.at (by simp)) rfl]
  simp only [runF, d_without_thing, b_without_thing, exs_cons, ex_ret, ev_bi, evh_cons, evh_nil]
  rw [ev_compM (xs := l) (c := D.int) (t := fun i => !(i == t)) (e := D.int)]
  · simp [fold_Lo, withoutT]
  · simp
  · exact lt_lim (by omega)
  · intro a ha
    exact ⟨_, rfl, fun S' => ⟨by simp [wipe], fun _ => by simp [wipe]⟩⟩
def partB (l o : List Int) : Bool := l.all fun i => decide (i ∈ o)
theorem is_part_ok (H : Hs T x [n_is_part]) {l o : List Int} (hl : l.length < 1000) : callN T (n + 1) (x.f n_is_part) [.d (Lo l), .d (Lo o)] S = .ok (.d (.bl (partB l o))) S := by
  rw [call_def (H.at (by simp)) rfl]
  simp only [runF, d_is_part, b_is_part, exs_cons, ex_ret]
  rw [ev_allC l D.int (fun i => decide (i ∈ o)) (by simp) (lt_lim (by omega)) fun t ht => ⟨_, rfl, fun S' => by simp [wipe]⟩]
  simp [partB]
/-! ### the program: conditions -/
def stepB (told : List (List Int)) (l : List Int) : Bool := !l.isEmpty && !(l.any fun t => decide (withoutT l t ∈ told))
theorem steps_ok (H : Hs T x [n_without_thing, n_steps]) {m : Nat} {told : List (List Int)} (k : KOk m told) : callN T (n + 2) (x.f n_steps) [.d (Kd x m told)] S = .ok (.d (optD ((told.find? (stepB told)).map Lo))) S := by
  rw [call_def (H.at (by simp)) rfl]
  refine run_d rfl ?_
  refine exs_findN (fun ρ => ∃ a b, ρ = [some (.d (Kd x m told)), a, b]) told Lo (fun l => if stepB told l then some (Lo l) else none) (by simp) ⟨_, _, rfl⟩ ?_ (findSome_if told)
  rintro l hl ρ ⟨a, b, rfl⟩
  refine ⟨_, ⟨some (.d (Lo l)), b, rfl⟩, exs_ifret ?_ fun _ => by simp⟩
  have hs := k.small hl
  refine tst_and' (p := !l.isEmpty) (by cases l <;> simp) fun _ => tst_not' (tst_of (ev_anyC l D.int (fun t => decide (withoutT l t ∈ told)) (by simp) (lt_lim (by omega)) fun t ht => ⟨_, rfl, fun S' => by simp [wipe, without_ok (H.sub (by simp)) hs]⟩))
def withinB (told : List (List Int)) (s : List Int) : Bool := told.any fun l => partB s l
theorem lies_within_ok (H : Hs T x [n_is_part, n_lies_within]) {m : Nat} {told : List (List Int)} (k : told.length ≤ 1000) {s : List Int} (hs : s.length < 1000) : callN T (n + 2) (x.f n_lies_within) [.d (Kd x m told), .d (Lo s)] S = .ok (.d (.bl (withinB told s))) S := by
  rw [call_def (H.at (by simp)) rfl]
  refine run_d rfl ?_
  simp only [d_lies_within, b_lies_within, exs_cons, ex_ret]
  rw [ev_anyC told Lo (fun l => partB s l) (by simp) (lt_lim (by omega)) fun t ht => ⟨_, rfl, fun S' => by simp [wipe, is_part_ok (H.sub (by simp)) hs]⟩]
  simp [withinB]
def extF (told fl : List (List Int)) (m : Nat) (l : List Int) (o : List Int) : Option D := if !decide (l = o) && (partB l o && !((addedL m told l).any fun t => decide (t ∈ o))) then some (.tup [Lo l, Lo o]) else none
theorem added_len {m : Nat} {told : List (List Int)} {l : List Int} : (addedL m told l).length ≤ m := by
  have := List.length_filter_le (fun t => !decide (t ∈ l) && decide (withT l t ∈ told)) (rI m)
  rw [rI_len] at this
  exact this
theorem full_len {m : Nat} {told : List (List Int)} : (fullL m told).length ≤ told.length := List.length_filter_le _ _
@[simp] theorem ev_tup2 {g : G} {ρ : Rho} {a b : D} : R.of (([RV.d a, RV.d b].mapM RV.data).bind fun ds => if ds.length ≤ lim then some (RV.d (.tup ds)) else none) S = .ok (.d (.tup [a, b])) S := rfl
theorem extends_ok (H : Hs T x [n_with_thing, n_added, n_full, n_is_part, n_extends]) {m : Nat} {told : List (List Int)} (k : KOk m told) : callN T (n + 4) (x.f n_extends) [.d (Kd x m told)] S = .ok (.d (optD (told.findSome? fun l => (fullL m told).findSome? (extF told (fullL m told) m l)))) S := by
  rw [call_def (H.at (by simp)) rfl]
  refine run_d rfl ?_
  refine set_lst (Q := (· = _)) (xs := (fullL m told).map Lo) (by simp [full_ok (H.sub (by simp)) k]) ?_
  refine exs_findN (fun ρ => ∃ a b c d, ρ = [some (.d (Kd x m told)), some (.d (.lst ((fullL m told).map Lo))), a, b, c, d]) told Lo (fun l => (fullL m told).findSome? (extF told (fullL m told) m l)) (by simp) ⟨_, _, _, _, rfl⟩ ?_ rfl
  rintro l hl ρ ⟨a, b, c, d, rfl⟩
  have hs := k.small hl
  refine set_lstE (xs := (addedL m told l).map .int) (by simp [added_ok (H.sub (by simp)) k.hm hs]) ?_
  refine exs_find2 (fun ρ => ∃ c' d', ρ = [some (.d (Kd x m told)), some (.d (.lst ((fullL m told).map Lo))), some (.d (Lo l)), some (.d (.lst ((addedL m told l).map .int))), c', d']) (fullL m told) Lo (extF told (fullL m told) m l) (by simp) ⟨_, _, rfl⟩ ?_ fun ρ ⟨c', d', e⟩ => ⟨_, _, _, _, e⟩
  rintro o ho ρ ⟨c', d', rfl⟩
  refine ⟨_, ⟨some (.d (Lo o)), d', rfl⟩, exs_ifret (b := !decide (l = o) && (partB l o && !((addedL m told l).any fun t => decide (t ∈ o)))) (tst_and' (by simp) fun _ => tst_and' (by simp [is_part_ok (H.sub (by simp)) hs]) fun _ => tst_not' (tst_of (ev_anyC (addedL m told l) D.int (fun t => decide (t ∈ o)) (by simp) (lt_lim (by have := added_len (m := m) (told := told) (l := l); have := k.hm; omega)) fun t ht => ⟨_, rfl, fun S' => by simp [wipe]⟩))) fun _ => by simp⟩
/-! parts -/
def partsU (l : List Int) : List (List Int) := l.foldl (fun f t => f ++ f.map (· ++ [t])) [[]]
def partsL (l : List Int) : List (List Int) := sortL (partsU l)
theorem partsU_len : ∀ (l : List Int) (a : List (List Int)), (l.foldl (fun f t => f ++ f.map (· ++ [t])) a).length = a.length * 2 ^ l.length
  | [], a => by simp
  | t :: l, a => by
    rw [List.foldl_cons, partsU_len l, List.length_append, List.length_map, List.length_cons, Nat.pow_succ]
    rw [show a.length + a.length = a.length * 2 by omega, Nat.mul_assoc, Nat.mul_comm 2]
theorem partsU_mem : ∀ (l : List Int) (a : List (List Int)) (s : List Int), s ∈ l.foldl (fun f t => f ++ f.map (· ++ [t])) a → ∃ u ∈ a, ∃ v, v.Sublist l ∧ s = u ++ v
  | [], a, s, h => ⟨s, h, [], List.Sublist.refl _, by simp⟩
  | t :: l, a, s, h => by
    rw [List.foldl_cons] at h
    obtain ⟨u, hu, v, hv, rfl⟩ := partsU_mem l _ s h
    rcases List.mem_append.mp hu with hu | hu
    · exact ⟨u, hu, v, hv.cons t, rfl⟩
    · obtain ⟨w, hw, rfl⟩ := List.mem_map.mp hu
      exact ⟨w, hw, t :: v, hv.cons₂ t, by simp⟩
theorem partsU_sub {l s : List Int} (h : s ∈ partsU l) : s.Sublist l := by
  obtain ⟨u, hu, v, hv, rfl⟩ := partsU_mem l [[]] s h
  rw [List.mem_singleton] at hu
  subst hu
  simpa using hv
theorem partsL_sub {l s : List Int} (h : s ∈ partsL l) : s.Sublist l := partsU_sub ((sortA_spec totL (partsU l)).2.mem_iff.mp h)
theorem partsL_len {l : List Int} : (partsL l).length = 2 ^ l.length := by
  have := (sortA_spec totL (partsU l)).2.length_eq
  unfold partsL sortL
  rw [this]
  unfold partsU
  rw [partsU_len]; simp
theorem pow_small {k : Nat} (h : k ≤ 5) : 2 ^ k ≤ 32 := Nat.le_trans (Nat.pow_le_pow_right (by omega) h) (by decide)
theorem parts_of_ok (H : Hs T x [n_parts_of]) {l : List Int} (hl : l.length ≤ 5) : callN T (n + 1) (x.f n_parts_of) [.d (.lst (l.map .int))] S = .ok (.new (.lst ((partsL l).map Lo))) S := by
  rw [call_def (H.at (by simp)) rfl]
  refine run_new rfl ?_
  refine set_lst (Q := (· = _)) (xs := [[]].map Lo) (by simp; rfl) ?_
  refine exs_loop (Q := (· = _)) (fun dn ρ S' => S' = S ∧ ∃ a b, ρ = [some (.d (.lst (l.map .int))), some (.d (.lst ((partsU dn).map Lo))), a, b]) l D.int (by simp) ⟨rfl, none, none, rfl⟩ ?_ ?_
  · rintro dn t rest ρ S' e ⟨rfl, a, b, rfl⟩
    have hd : dn.length ≤ 5 := by rw [e] at hl; simp at hl; omega
    have hp : (partsU dn).length ≤ 32 := by
      unfold partsU
      rw [partsU_len]
      simpa using pow_small hd
    have hle : ∀ s ∈ partsU dn, s.length + 1 ≤ lim := fun s hs => le_lim (by have := (partsU_sub hs).length_le; omega)
    refine ⟨_, _, set_lst (Q := (· = X.nx _ _)) (xs := (partsU (dn ++ [t])).map Lo) ?_ (by rw [exs_nil]; rfl), rfl, some (.d (.int t)), b, rfl⟩
    refine ev_op' (v := .d (.lst ((partsU dn).map Lo))) (by simp) rfl (ev_compM (partsU dn) Lo (fun _ => true) (fun s => Lo (s ++ [t])) (by simp) (lt_lim (by omega)) fun s hs => ⟨_, rfl, fun S'' => ⟨evO_no, fun _ => ⟨_, ev_tupStar (l := s) (t := t) (by simp [wipe]) (by simp [wipe]) (hle s hs), rfl⟩⟩⟩) ?_
    rw [op_ln, List.filter_eq_self.mpr (fun _ _ => rfl), add_lst (by simp; exact le_lim (by omega)), of_some]
    congr 3
    unfold partsU
    rw [List.foldl_append]
    simp [Function.comp_def]
  · rintro ρ' S' ⟨rfl, a, b, rfl⟩
    simp [partsL]
def restL (m : Nat) (told : List (List Int)) (l : List Int) : List Int := (rI m).filter fun t => !decide (t ∈ l) && !decide (t ∈ addedL m told l)
def bothL (l s : List Int) : List Int := sortI (l ++ s)
def agB (told : List (List Int)) (l : List Int) (one other : Int) (s : List Int) : Bool := withinB told (withT (bothL l s) one) && !withinB told (withT (bothL l s) other)
def agF (told : List (List Int)) (l : List Int) (one other : Int) (s : List Int) : Option D := if agB told l one other s then some (.tup [Lo l, .int one, .int other, Lo s]) else none
def agreesL (m : Nat) (told : List (List Int)) : Option D := told.findSome? fun l => (addedL m told l).findSome? fun one => (addedL m told l).findSome? fun other => (partsL (restL m told l)).findSome? fun s => agF told l one other s
theorem rest_len {m : Nat} {told : List (List Int)} {l : List Int} : (restL m told l).length ≤ m := by
  have := List.length_filter_le (fun t => !decide (t ∈ l) && !decide (t ∈ addedL m told l)) (rI m)
  rw [rI_len] at this
  exact this
theorem sortI_len (l : List Int) : (sortI l).length = l.length := (sortI_ok l).2.length_eq
@[simp] theorem withT_len (l : List Int) (t : Int) : (withT l t).length = l.length + 1 := by unfold withT; rw [sortI_len]; simp
theorem agrees_ok (H : Hs T x [n_with_thing, n_added, n_is_part, n_lies_within, n_parts_of, n_agrees]) {m : Nat} {told : List (List Int)} (k : KOk m told) : callN T (n + 3) (x.f n_agrees) [.d (Kd x m told)] S = .ok (.d (optD (agreesL m told))) S := by
  rw [call_def (H.at (by simp)) rfl]
  refine run_d rfl ?_
  refine exs_findN (fun ρ => ∃ a b c d e f h i, ρ = [some (.d (Kd x m told)), a, b, c, d, e, f, h, i]) told Lo (fun l => (addedL m told l).findSome? fun one => (addedL m told l).findSome? fun other => (partsL (restL m told l)).findSome? fun s => agF told l one other s) (by simp) ⟨_, _, _, _, _, _, _, _, rfl⟩ ?_ rfl
  rintro l hl ρ ⟨a, b, c, d, e, f, h, i, rfl⟩
  have hs := k.small hl
  have hlm := (k.lot l hl).len
  have hm := k.hm
  have hA := added_len (m := m) (told := told) (l := l)
  have hR := rest_len (m := m) (told := told) (l := l)
  refine set_lstE (xs := (addedL m told l).map .int) (by simp [added_ok (H.sub (by simp)) k.hm hs]) ?_
  refine set_lstE (xs := (restL m told l).map .int) ?_ ?_
  · refine (ev_compM (rI m) D.int (fun t => !decide (t ∈ l) && !decide (t ∈ addedL m told l)) D.int (evI_rI (by simp) (by omega)) (by rw [rI_len]; exact lt_lim (by omega)) fun t ht => ⟨_, rfl, fun S' => ⟨?_, fun _ => by simp [wipe]⟩⟩)
    rw [evO_yes]
    exact tst_and' (by simp [wipe]) fun _ => by simp [wipe]
  refine exs_find2 (fun ρ => ∃ d e f h i, ρ = [some (.d (Kd x m told)), some (.d (Lo l)), some (.d (.lst ((addedL m told l).map .int))), some (.d (.lst ((restL m told l).map .int))), d, e, f, h, i]) (addedL m told l) D.int (fun one => (addedL m told l).findSome? fun other => (partsL (restL m told l)).findSome? fun s => agF told l one other s) (by simp) ⟨_, _, _, _, _, rfl⟩ ?_ fun ρ ⟨d, e, f, h, i, q⟩ => ⟨_, _, _, _, _, _, _, _, q⟩
  rintro one h1 ρ ⟨d, e, f, h, i, rfl⟩
  refine exs_find2 (fun ρ => ∃ e f h i, ρ = [some (.d (Kd x m told)), some (.d (Lo l)), some (.d (.lst ((addedL m told l).map .int))), some (.d (.lst ((restL m told l).map .int))), some (.d (.int one)), e, f, h, i]) (addedL m told l) D.int (fun other => (partsL (restL m told l)).findSome? fun s => agF told l one other s) (by simp) ⟨_, _, _, _, rfl⟩ ?_ fun ρ ⟨e, f, h, i, q⟩ => ⟨_, _, _, _, _, q⟩
  rintro other h2 ρ ⟨e, f, h, i, rfl⟩
  refine exs_find2 (fun ρ => ∃ f h i, ρ = [some (.d (Kd x m told)), some (.d (Lo l)), some (.d (.lst ((addedL m told l).map .int))), some (.d (.lst ((restL m told l).map .int))), some (.d (.int one)), some (.d (.int other)), f, h, i]) (partsL (restL m told l)) Lo (fun s => agF told l one other s) (by simp [parts_of_ok (H.sub (by simp)) (show (restL m told l).length ≤ 5 by omega)]) ⟨_, _, _, rfl⟩ ?_ fun ρ ⟨f, h, i, q⟩ => ⟨_, _, _, _, q⟩
  rintro s h3 ρ ⟨f, h, i, rfl⟩
  have hsl : s.length ≤ 5 := by have := (partsL_sub h3).length_le; omega
  have hb : (bothL l s).length ≤ 10 := by unfold bothL; rw [sortI_len, List.length_append]; omega
  refine set_valE (d := Lo (bothL l s)) ?_ ⟨_, ⟨_, _, i, rfl⟩, exs_ifret (b := agB told l one other s) (d := .tup [Lo l, .int one, .int other, Lo s]) (tst_and' ?_ fun _ => tst_not' ?_) fun _ => by simp⟩
  · simp [add_Lo (show l.length + s.length ≤ lim from le_lim (by omega))]
    rfl
  · simp [with_thing_ok (H.sub (by simp)) (show (bothL l s).length < 1000 by omega)]
    rw [lies_within_ok (H.sub (by simp)) k.len (by simp; omega)]
    rfl
  · simp [with_thing_ok (H.sub (by simp)) (show (bothL l s).length < 1000 by omega)]
    rw [lies_within_ok (H.sub (by simp)) k.len (by simp; omega)]
    rfl
def growB (told : List (List Int)) (s o : List Int) : Bool := o.any fun t => !decide (t ∈ s) && withinB told (withT s t)
theorem can_grow_ok (H : Hs T x [n_with_thing, n_is_part, n_lies_within, n_can_grow]) {m : Nat} {told : List (List Int)} (k : told.length ≤ 1000) {s o : List Int} (hs : s.length < 900) (ho : o.length < 1000) : callN T (n + 3) (x.f n_can_grow) [.d (Kd x m told), .d (Lo s), .d (Lo o)] S = .ok (.d (.bl (growB told s o))) S := by
  rw [call_def (H.at (by simp)) rfl]
  refine run_d rfl ?_
  simp only [d_can_grow, b_can_grow, exs_cons, ex_ret]
  rw [ev_anyC o D.int (fun t => !decide (t ∈ s) && withinB told (withT s t)) (by simp) (lt_lim (by omega)) fun t ht => ⟨_, rfl, fun S' => ?_⟩]
  · simp [growB]
  · simp [wipe, with_thing_ok (H.sub (by simp)) (show s.length < 1000 by omega)]
    by_cases h : t ∈ s
    · simp [h]
    · simp [h]
      rw [lies_within_ok (H.sub (by simp)) k (by simp; omega)]
def prtL (m : Nat) (told : List (List Int)) : List (List Int) := (partsL (rI m)).filter (withinB told)
def spF (told : List (List Int)) (s o : List Int) : Option D := if decide (s.length < o.length) && !growB told s o then some (.tup [Lo s, Lo o]) else none
def spreadsL (m : Nat) (told : List (List Int)) : Option D := (prtL m told).findSome? fun s => (prtL m told).findSome? fun o => spF told s o
theorem spreads_ok (H : Hs T x [n_with_thing, n_is_part, n_lies_within, n_can_grow, n_parts_of, n_spreads]) {m : Nat} {told : List (List Int)} (k : KOk m told) : callN T (n + 4) (x.f n_spreads) [.d (Kd x m told)] S = .ok (.d (optD (spreadsL m told))) S := by
  have hm := k.hm
  have hp : (partsL (rI m)).length ≤ 32 := by rw [partsL_len, rI_len]; exact pow_small hm
  have sm : ∀ s ∈ partsL (rI m), s.length ≤ 5 := fun s hs => by have := (partsL_sub hs).length_le; rw [rI_len] at this; omega
  rw [call_def (H.at (by simp)) rfl]
  refine run_d rfl ?_
  show exs _ (b_spreads x) [some (.d (Kd x m told)), none, none, none] S = _
  refine set_lst (Q := (· = _)) (xs := (prtL m told).map Lo) ?_ ?_
  · refine ev_compM (partsL (rI m)) Lo (withinB told) Lo ?_ (lt_lim (by omega)) fun s hs => ⟨_, rfl, fun S' => ⟨?_, fun _ => by simp [wipe]⟩⟩
    · rw [evI_e, ev_call, evh_cons, ev_rL (m := m) (by simp) (by omega)]
      simp [parts_of_ok (H.sub (by simp)) (show (rI m).length ≤ 5 by rw [rI_len]; exact hm)]
    · have := sm s hs
      simp [wipe]
      rw [lies_within_ok (H.sub (by simp)) k.len (by omega)]
      rfl
  refine exs_findN (fun ρ => ∃ a b, ρ = [some (.d (Kd x m told)), some (.d (.lst ((prtL m told).map Lo))), a, b]) (prtL m told) Lo (fun s => (prtL m told).findSome? fun o => spF told s o) (by simp) ⟨_, _, rfl⟩ ?_ rfl
  rintro s hs ρ ⟨a, b, rfl⟩
  refine exs_find2 (fun ρ => ∃ b, ρ = [some (.d (Kd x m told)), some (.d (.lst ((prtL m told).map Lo))), some (.d (Lo s)), b]) (prtL m told) Lo (fun o => spF told s o) (by simp) ⟨_, rfl⟩ ?_ fun ρ ⟨b, q⟩ => ⟨_, _, q⟩
  rintro o ho ρ ⟨b, rfl⟩
  have h1 := sm s (List.mem_filter.mp hs).1
  have h2 := sm o (List.mem_filter.mp ho).1
  refine ⟨_, ⟨some (.d (Lo o)), rfl⟩, exs_ifret (b := decide (s.length < o.length) && !growB told s o) (d := .tup [Lo s, Lo o]) (tst_and' (by simp) fun _ => tst_not' ?_) fun _ => by simp⟩
  simp
  rw [can_grow_ok (H.sub (by simp)) k.len (by omega) (by omega)]
  rfl
end
end PL
set_option linter.all false
set_option Elab.async false
set_option maxRecDepth 100000
set_option maxHeartbeats 1000000
namespace PL
open MI PB
/-! ### the law's source of numbers -/
def Good (ds : List Int) : Prop := ∃ a b rest, ds = a :: b :: rest ∧ 0 ≤ a ∧ 0 ≤ b ∧ ∀ z ∈ rest, 0 ≤ z
/-- the source stands at the k-th cell -/
def Src (S : Sto) (k : Nat) : Prop := ∃ ds, S[k]? = some (.lst (ds.map .int)) ∧ Good ds
section
variable {T : Txt} {x : Ix} {n : Nat} {S : Sto} {k : Nat}
theorem see_r {xs : List D} (h : S[k]? = some (.lst xs)) : (RV.r k).see S = some (.lst xs) := by simp [RV.see, h]
theorem sub0 {a : Int} {r : List D} : subD (.lst (.int a :: r)) (.int 0) = some (.int a) := by simp [subD, ixAt]
theorem sub1 {a b : D} {r : List D} : subD (.lst (a :: b :: r)) (.int 1) = some b := by
  have : (1 : Int) < ((a :: b :: r).length : Nat) := by simp; omega
  simp only [subD, ixAt, if_pos this]
  rfl
theorem isL_of {xs : List D} (h : S[k]? = some (.lst xs)) : isL S k = true := by simp [isL, h]
theorem put0 {a d : D} {r : List D} (h : S[k]? = some (.lst (a :: r))) : putC S (.r k) (.d (.int 0)) d = some (S.set k (.lst (d :: r))) := by simp [putC, h, ixAt]
theorem put1 {a b d : D} {r : List D} (h : S[k]? = some (.lst (a :: b :: r))) : putC S (.r k) (.d (.int 1)) d = some (S.set k (.lst (a :: d :: r))) := by
  have : (1 : Int) < ((a :: b :: r).length : Nat) := by simp; omega
  simp only [putC, h, ixAt, if_pos this]
  rfl
theorem set_get {c : Cell} {xs : List D} (h : S[k]? = some (.lst xs)) : (S.set k c)[k]? = some c := List.getElem?_set_self (List.getElem?_eq_some_iff.mp h).1
theorem ev_subr {g : G} {ρ : Rho} {a i : E} {xs : List D} {j : Int} {d : D} (h : S[k]? = some (.lst xs)) (ha : ev g a ρ S = .ok (.r k) S) (hi : ev g i ρ S = .ok (.d (.int j)) S) (hs : subD (.lst xs) (.int j) = some d) : ev g (.sub a i) ρ S = .ok (.d d) S := by
  rw [ev_sub, ha, bind_ok, hand_r, of_some, bind_ok, hi, bind_ok, see_r h, Option.bind_some, see_d, Option.bind_some, hs]; rfl
theorem exs_if {g : G} {ρ : Rho} {c : E} {a b r : Ss} {q : Bool} (hc : tst (ev g c ρ S) = .ok q S) : exs g (.cons (.ite c a b) r) ρ S = match (if q then exs g a ρ S else exs g b ρ S) with
    | .nx ρ1 S1 => exs g r ρ1 S1
    | x => x := by
  rw [exs_cons, ex_ite, hc, then_ok] <;> rfl
theorem below_tail (H : Hs T x [n_l_below]) {a b size : Int} {rest : List Int} {c : Option RV} (h : S[k]? = some (.lst ((a :: b :: rest).map .int))) (ha : 0 ≤ a) (hb : 0 ≤ b) (hr : ∀ z ∈ rest, 0 ≤ z) (h1 : 1 ≤ size) (h2 : size ≤ 1000) :
    ∃ r ds', 0 ≤ r ∧ r < size ∧ Good ds' ∧ exs (T.g (callN T n)) (match b_l_below x with
      | .cons _ r => r
      | .nil => .nil) [some (.r k), some (.d (.int size)), c] S = .ret (.d (.int r)) (S.set k (.lst (ds'.map .int))) := by
  have hk := (List.getElem?_eq_some_iff.mp h).1
  have h' : S[k]? = some (.lst (.int a :: .int b :: rest.map .int)) := h
  have e1 : ∀ ρ : Rho, ρ[0]? = some (some (.r k)) → ev (T.g (callN T n)) (.sub (.var 0) (.k (.int 1))) ρ S = .ok (.d (.int b)) S := fun ρ hρ => ev_subr h' (by simp [hρ]) (by simp) sub1
  have e0 : ∀ ρ : Rho, ρ[0]? = some (some (.r k)) → ev (T.g (callN T n)) (.sub (.var 0) (.k (.int 0))) ρ S = .ok (.d (.int a)) S := fun ρ hρ => ev_subr h' (by simp [hρ]) (by simp) sub0
  simp only [b_l_below]
  by_cases hb0 : 0 < b
  · refine ⟨b % size, a :: b / size :: rest, Int.emod_nonneg _ (by omega), Int.emod_lt_of_pos _ (by omega), ⟨a, b / size, rest, rfl, ha, Int.ediv_nonneg hb (by omega), hr⟩, ?_⟩
    have hm : opD .mod (.int b) (.int size) = some (.d (.int (b % size))) := by
      show (if 0 < size then some (RV.d (.int (b % size))) else none) = _
      rw [if_pos (by omega)]
    have hf : opD .fdiv (.int b) (.int size) = some (.d (.int (b / size))) := by
      show (if 0 < size ∧ size < 1073741824 then some (RV.d (.int (b / size))) else none) = _
      rw [if_pos (by omega)]
    simp [hb0, see_r h', sub1, sub0, hm, hf, put1 h']
  · have hb1 : b = 0 := by omega
    subst hb1
    have hm : ∀ v : Int, opD .mod (.int v) (.int 2147483647) = some (.d (.int (v % 2147483647))) := fun v => rfl
    have hmul : opD .mul (.int a) (.int 48271) = some (.d (.int (a * 48271))) := by
      show (if small64 a || small64 48271 then some (RV.d (.int (a * 48271))) else none) = _
      rw [show small64 48271 = true by decide, Bool.or_true, if_pos rfl]
    have hf : ∀ v : Int, opD .fdiv (.int v) (.int 64) = some (.d (.int (v / 64))) := fun v => rfl
    have hm2 : ∀ v : Int, opD .mod (.int v) (.int size) = some (.d (.int (v % size))) := fun v => by
      show (if 0 < size then some (RV.d (.int (v % size))) else none) = _
      rw [if_pos (by omega)]
    have na : 0 ≤ (a * 48271 + 11) % 2147483647 := Int.emod_nonneg _ (by omega)
    refine ⟨(a * 48271 + 11) % 2147483647 / 64 % size, (a * 48271 + 11) % 2147483647 :: 0 :: rest, Int.emod_nonneg _ (by omega), Int.emod_lt_of_pos _ (by omega), ⟨_, 0, rest, rfl, na, by omega, hr⟩, ?_⟩
    have h2 : (S.set k (.lst (.int ((a * 48271 + 11) % 2147483647) :: .int 0 :: rest.map .int)))[k]? = some (.lst (.int ((a * 48271 + 11) % 2147483647) :: .int 0 :: rest.map .int)) := set_get h
    simp [see_r h', see_r h2, sub1, sub0, hm, hf, hm2, hmul, put0 h']
theorem below_ok (H : Hs T x [n_l_below]) {size : Int} (h : Src S k) (h1 : 1 ≤ size) (h2 : size ≤ 1000) :
    ∃ r ds', 0 ≤ r ∧ r < size ∧ Good ds' ∧ callN T (n + 1) (x.f n_l_below) [.r k, .d (.int size)] S = .ok (.d (.int r)) (S.set k (.lst (ds'.map .int))) := by
  obtain ⟨ds, hs, a, b, rest, rfl, ha, hb, hr⟩ := h
  have hk := (List.getElem?_eq_some_iff.mp hs).1
  have h' : S[k]? = some (.lst (.int a :: .int b :: rest.map .int)) := hs
  rw [call_def (H.at (by simp)) rfl]
  have fin : ∀ {r : Int} {ds' : List Int}, exs (T.g (callN T n)) (b_l_below x) [some (.r k), some (.d (.int size)), none] S = .ret (.d (.int r)) (S.set k (.lst (ds'.map .int))) → runF (T.g (callN T n)) (d_l_below x) [.r k, .d (.int size)] S = .ok (.d (.int r)) (S.set k (.lst (ds'.map .int))) := fun {r ds'} e => by
    unfold runF
    rw [if_pos (show ([RV.r k, RV.d (D.int size)] : List RV).length = (d_l_below x).np from rfl)]
    have e' : exs (T.g (callN T n)) (d_l_below x).body (List.map some [.r k, .d (.int size)] ++ List.replicate ((d_l_below x).nn - (d_l_below x).np) none) S = .ret (.d (.int r)) (S.set k (.lst (ds'.map .int))) := e
    rw [e']
    simp
    rw [List.take_of_length_le (by simp)]
  by_cases hp : b = 0 ∧ rest ≠ []
  · obtain ⟨rfl, hne⟩ := hp
    cases rest with
    | nil => exact (hne rfl).elim
    | cons z rest =>
      have e3 : S.set k (.lst (.int a :: .int z :: rest.map .int)) = S.set k (.lst ((a :: z :: rest).map .int)) := rfl
      obtain ⟨r, ds', q1, q2, q3, q4⟩ := below_tail (T := T) (x := x) (n := n) (S := S.set k (.lst ((a :: z :: rest).map .int))) (c := none) H (a := a) (b := z) (rest := rest) (set_get h') ha (hr z (by simp)) (fun y hy => hr y (by simp [hy])) h1 h2
      refine ⟨r, ds', q1, q2, q3, fin ?_⟩
      rw [List.set_set] at q4
      rw [← q4]
      have hpop : popC S k (some 2) = .ok (.d (.int z)) (S.set k (.lst (.int a :: .int 0 :: rest.map .int))) := by
        have h3 : S[k]? = some (.lst (.int a :: .int 0 :: .int z :: rest.map .int)) := h'
        have : (2 : Int) < ((D.int a :: .int 0 :: .int z :: rest.map .int).length : Nat) := by simp; omega
        simp only [popC, h3, ixAt, if_pos this]
        rfl
      have hlen : lenD [.lst (.int a :: .int 0 :: .int z :: rest.map .int)] = some (.d (.int ((rest.length : Nat) + 3 : Int))) := by simp; omega
      have h4 := set_get (c := .lst (.int a :: .int 0 :: rest.map .int)) h'
      have hL : isL S k = true := isL_of h'
      have h3 : S[k]? = some (.lst (.int a :: .int 0 :: .int z :: rest.map .int)) := h'
      have hput := put1 (d := .int z) h4
      rw [List.set_set] at hput
      conv => lhs; unfold b_l_below
      rw [exs_if (q := true) (by simp [see_r h3, sub1, hlen]; omega)]
      simp only [if_true, exs_cons, ex_setItem, ev_popAt]
      simp [hL, hpop, hput]
      rfl
  · obtain ⟨r, ds', q1, q2, q3, q4⟩ := below_tail (T := T) (x := x) (n := n) (S := S) (c := none) H hs ha hb hr h1 h2
    refine ⟨r, ds', q1, q2, q3, fin ?_⟩
    rw [← q4]
    conv => lhs; unfold b_l_below
    rw [exs_if (q := false) ?_]
    · rw [if_neg (by simp), exs_nil]
      rfl
    · by_cases hb0 : b = 0
      · subst hb0
        have : rest = [] := by
          cases rest with
          | nil => rfl
          | cons z r => exact (hp ⟨rfl, by simp⟩).elim
        subst this
        simp [see_r h', sub1]
      · have : (b == 0) = false := by simpa using hb0
        simp [see_r h', sub1, this]
end
/-- the source's next state -/
def Nxt (S : Sto) (k : Nat) (S' : Sto) : Prop := k < S.length ∧ ∃ ds, Good ds ∧ S' = S.set k (.lst (ds.map .int))
theorem Nxt.len {S S' : Sto} {k : Nat} (h : Nxt S k S') : S'.length = S.length := by
  obtain ⟨_, ds, _, rfl⟩ := h; simp
theorem Nxt.src {S S' : Sto} {k : Nat} (h : Nxt S k S') : Src S' k := by
  obtain ⟨hk, ds, g, rfl⟩ := h
  exact ⟨ds, List.getElem?_set_self hk, g⟩
theorem Nxt.other {S S' : Sto} {k j : Nat} (h : Nxt S k S') (n : k ≠ j) : S'[j]? = S[j]? := by
  obtain ⟨hk, ds, g, rfl⟩ := h
  exact List.getElem?_set_ne n
theorem Nxt.trans {S S' S'' : Sto} {k : Nat} (h : Nxt S k S') (h2 : Nxt S' k S'') : Nxt S k S'' := by
  obtain ⟨hk, ds, g, rfl⟩ := h
  obtain ⟨_, ds2, g2, rfl⟩ := h2
  exact ⟨hk, ds2, g2, List.set_set _⟩
theorem Src.refl {S : Sto} {k : Nat} (h : Src S k) : Nxt S k S := by
  obtain ⟨ds, h, g⟩ := h
  obtain ⟨hk, e⟩ := List.getElem?_eq_some_iff.mp h
  exact ⟨hk, ds, g, by rw [← e]; exact (List.set_getElem_self hk).symm⟩
theorem Nxt.app {S S1 : Sto} {k : Nat} {c : Cell} (h : Nxt (S ++ [c]) k S1) (hk : k < S.length) : ∃ S', Nxt S k S' ∧ S1 = S' ++ [c] := by
  obtain ⟨_, ds, g, rfl⟩ := h
  exact ⟨_, ⟨hk, ds, g, rfl⟩, by rw [List.set_append_left _ _ hk]⟩
theorem Src.lt {S : Sto} {k : Nat} (h : Src S k) : k < S.length := (List.getElem?_eq_some_iff.mp h.choose_spec.1).1
theorem Src.push {S : Sto} {k : Nat} (h : Src S k) {c : Cell} : Src (S ++ [c]) k := by
  obtain ⟨ds, e, g⟩ := h
  exact ⟨ds, by rw [List.getElem?_append_left (List.getElem?_eq_some_iff.mp e).1]; exact e, g⟩
section
variable {T : Txt} {x : Ix} {n : Nat} {S : Sto} {k : Nat}
theorem below_nx (H : Hs T x [n_l_below]) {size : Int} (h : Src S k) (h1 : 1 ≤ size) (h2 : size ≤ 1000) :
    ∃ r S', 0 ≤ r ∧ r < size ∧ Nxt S k S' ∧ callN T (n + 1) (x.f n_l_below) [.r k, .d (.int size)] S = .ok (.d (.int r)) S' := by
  obtain ⟨r, ds', q1, q2, q3, q4⟩ := below_ok (n := n) H h h1 h2
  exact ⟨r, _, q1, q2, ⟨h.lt, ds', q3, rfl⟩, q4⟩
theorem ixAt_ok {r : Int} {l : Nat} (h0 : 0 ≤ r) (h1 : r < l) : ixAt l r = some r.toNat := by
  unfold ixAt
  simp only [h0, h1, and_self, if_true]
theorem subD_lst {xs : List D} {r : Int} (h0 : 0 ≤ r) (h1 : r < (xs.length : Nat)) : ∃ d ∈ xs, subD (.lst xs) (.int r) = some d := by
  have : r.toNat < xs.length := by omega
  refine ⟨xs[r.toNat], List.getElem_mem this, ?_⟩
  simp only [subD, ixAt_ok h0 h1]
  simp [this]
theorem subD_tup {xs : List D} {r : Int} (h0 : 0 ≤ r) (h1 : r < (xs.length : Nat)) : ∃ d ∈ xs, subD (.tup xs) (.int r) = some d := by
  have : r.toNat < xs.length := by omega
  refine ⟨xs[r.toNat], List.getElem_mem this, ?_⟩
  simp only [subD, ixAt_ok h0 h1]
  simp [this]
/-- one of some items -/
theorem pick_nx (H : Hs T x [n_l_below, n_l_pick]) {v : RV} {xs : List D} (h : Src S k) (h1 : xs ≠ []) (h2 : xs.length ≤ 1000) (hv : v.hand = some v) (hs : ∀ S', Nxt S k S' → v.see S' = some (.lst xs) ∨ v.see S' = some (.tup xs)) :
    ∃ d ∈ xs, ∃ S', Nxt S k S' ∧ callN T (n + 2) (x.f n_l_pick) [.r k, v] S = .ok (.d d) S' := by
  have hl : 1 ≤ xs.length := by cases xs with | nil => exact (h1 rfl).elim | cons a r => simp
  obtain ⟨r, S', q1, q2, q3, q4⟩ := below_nx (T := T) (x := x) (n := n) (S := S) (k := k) (H.sub (by simp)) (size := (xs.length : Nat)) h (by omega) (by omega)
  have hlen : (([v].mapM (RV.see S)).bind lenD) = some (.d (.int (xs.length : Nat))) := by
    rcases hs S h.refl with e | e <;> simp [e]
  obtain ⟨d, hd, hsub⟩ : ∃ d ∈ xs, (v.see S').bind (fun a => (subD a (.int r))) = some d := by
    rcases hs S' q3 with e | e
    · obtain ⟨d, hd, e2⟩ := subD_lst q1 q2; exact ⟨d, hd, by rw [e]; exact e2⟩
    · obtain ⟨d, hd, e2⟩ := subD_tup q1 q2; exact ⟨d, hd, by rw [e]; exact e2⟩
  refine ⟨d, hd, S', q3, ?_⟩
  rw [call_def (H.at (by simp)) rfl]
  have hb : exs (T.g (callN T (n + 1))) (d_l_pick x).body (List.map some [.r k, v] ++ List.replicate ((d_l_pick x).nn - (d_l_pick x).np) none) S = .ret (.d d) S' := by
    show exs _ (b_l_pick x) [some (.r k), some v] S = _
    have hs2 : (v.see S').bind (fun a => (subD a (.int r)).map RV.d) = some (.d d) := by
      cases e : v.see S' with
      | none => rw [e] at hsub; cases hsub
      | some a => rw [e] at hsub; simpa using hsub
    simp only [b_l_pick, exs_cons, ex_ret, ev_sub, ev_var, List.getElem?_cons_succ, List.getElem?_cons_zero, bind_ok, hv, of_some, ev_call, evh_cons, hand_r, ev_bi, evh_nil, bi_len, hlen, hand_d, G_call, q4, see_d, Option.bind_some, hs2, then_ok]
  unfold runF
  rw [if_pos (by rfl), hb]
  simp
  rw [List.take_of_length_le (by rw [q3.len]; omega)]
end
end PL
set_option linter.all false
set_option Elab.async false
set_option maxRecDepth 100000
set_option maxHeartbeats 1000000
namespace PL
open MI PB
section
variable {T : Txt} {x : Ix} {n : Nat} {S : Sto} {k : Nat}
/-! ### a value is equal to itself -/
inductive Eqa : Nat → D → Prop
  | non {f} : Eqa f .non
  | bl {f b} : Eqa f (.bl b)
  | int {f i} : Eqa f (.int i)
  | tup {f xs} : xs.length ≤ 1000 → (∀ d ∈ xs, Eqa f d) → Eqa (f + 1) (.tup xs)
  | lst {f xs} : xs.length ≤ 1000 → (∀ d ∈ xs, Eqa f d) → Eqa (f + 1) (.lst xs)
theorem eqa_tail {g : G} {xs : List D} {d : D} {E : E} (hl : xs.length ≤ 1000) (hd : lenD [d] = some (.d (.int (xs.length : Nat))))
    (he : ∀ (i : Int), i ∈ rI xs.length → ∀ S', ev g E [some (.d d), some (.d d), none, some (.d (.int i))] S' = .ok (.d (.bl true)) S') :
    ev g (.comp E (.one 3) (.range1 (.bi .len (.cons false (.var 1) .nil))) .no [3]) [some (.d d), some (.d d), none, none] S = .ok (.new (.lst (((rI xs.length).map fun _ => true).map .bl))) S :=
  ev_compB (rI xs.length) D.int (fun _ => true) (evI_rI (by simp [hd]) hl) (by rw [rI_len]; exact lt_lim (by omega)) fun i hi => ⟨_, rfl, fun S' => he i hi S'⟩
theorem equal_ok (H : Hs T x [n_l_equal]) : ∀ (f : Nat) {d : D}, Eqa f d → ∀ S, callN T (n + f + 1) (x.f n_l_equal) [.d d, .d d] S = .ok (.d (.bl true)) S := by
  intro f
  induction f with
  | zero =>
    intro d h S
    rw [call_def (H.at (by simp)) rfl]
    refine run_d rfl ?_
    show exs _ (b_l_equal x) [some (.d d), some (.d d), none, none] S = _
    cases h <;> simp [b_l_equal, RV.isNon, isTF, objOk, isTy]
  | succ f ih =>
    have ih' : ∀ {d : D}, Eqa f d → ∀ (S : Sto), callN T (n + (f + 1)) (x.f n_l_equal) [.d d, .d d] S = .ok (.d (.bl true)) S := ih
    intro d h S
    rw [call_def (H.at (by simp)) rfl]
    refine run_d rfl ?_
    show exs _ (b_l_equal x) [some (.d d), some (.d d), none, none] S = _
    cases h with
    | non => simp [b_l_equal, RV.isNon, isTF, objOk, isTy]
    | bl => simp [b_l_equal, RV.isNon, isTF, objOk, isTy]
    | int => simp [b_l_equal, RV.isNon, isTF, objOk, isTy]
    | @tup _ xs hl hx =>
      have q := eqa_tail (S := S) (g := T.g (callN T (n + (f + 1)))) (xs := xs) (d := .tup xs) (E := .call (x.f n_l_equal) (.cons false (.sub (.var 0) (.var 3)) (.cons false (.sub (.var 1) (.var 3)) .nil))) hl rfl fun i hi S' => by
        obtain ⟨h0, h1⟩ := mem_rI.mp hi
        obtain ⟨e, he, hs⟩ := subD_tup h0 h1
        simp [hs, ih' (hx e he)]
      simp [b_l_equal, RV.isNon, isTF, objOk, isTy, q, -List.map_map]
    | @lst _ xs hl hx =>
      have q := eqa_tail (S := S) (g := T.g (callN T (n + (f + 1)))) (xs := xs) (d := .lst xs) (E := .call (x.f n_l_equal) (.cons false (.sub (.var 0) (.var 3)) (.cons false (.sub (.var 1) (.var 3)) .nil))) hl rfl fun i hi S' => by
        obtain ⟨h0, h1⟩ := mem_rI.mp hi
        obtain ⟨e, he, hs⟩ := subD_lst h0 h1
        simp [hs, ih' (hx e he)]
      simp [b_l_equal, RV.isNon, isTF, objOk, isTy, q, -List.map_map]
theorem eqa_mono : ∀ {f : Nat} {d : D}, Eqa f d → ∀ {g : Nat}, f ≤ g → Eqa g d
  | f, _, .non, g, _ => .non
  | f, _, .bl, g, _ => .bl
  | f, _, .int, g, _ => .int
  | f + 1, _, .tup hl hx, g + 1, h => .tup hl fun d hd => eqa_mono (hx d hd) (by omega)
  | f + 1, _, .lst hl hx, g + 1, h => .lst hl fun d hd => eqa_mono (hx d hd) (by omega)
theorem eqa_Lo {l : List Int} (h : l.length ≤ 1000) : Eqa 1 (Lo l) := .tup (by simpa using h) fun d hd => by
  obtain ⟨i, _, rfl⟩ := List.mem_map.mp hd; exact .int
/-! ### the source -/
def seedF (c : Int) (z : Int) : Int := (c * 31 + (if z < 0 then -z else z)) % 2147483647
theorem big_pow (S : Sto) {g : G} {ρ : Rho} : ev g (.op .pow (.k (.int 10)) (.k (.int 18))) ρ S = .ok (.d (.int 1000000000000000000)) S := by
  rw [ev_op, ev_k]
  rfl
theorem random_ok (H : Hs T x [n_l_random]) {ns : List Int} (hl : ns.length ≤ 63) {salt : Int} (hs : 0 ≤ salt) :
    ∃ ds, Good ds ∧ callN T (n + 1) (x.f n_l_random) [script ns, .d (.int salt)] S = .ok (.new (.lst (ds.map .int))) S := by
  obtain ⟨c, hc, e⟩ : ∃ c : Int, 0 ≤ c ∧ exs (T.g (callN T n)) (b_l_random x) [some (script ns), some (.d (.int salt)), none, none] S = .ret (.new (.lst ((c :: 0 :: ns.filter fun z => decide (1000000000000000000 ≤ z)).map .int))) S := by
    rw [show b_l_random x = .cons _ (.cons _ (.cons _ .nil)) from rfl]
    refine set_val (Q := fun X => ∃ c : Int, 0 ≤ c ∧ X = .ret (.new (.lst ((c :: 0 :: ns.filter fun z => decide (1000000000000000000 ≤ z)).map .int))) S) (d := .int salt) (by simp) ?_
    refine exs_loop (Q := fun X => ∃ c : Int, 0 ≤ c ∧ X = .ret (.new (.lst ((c :: 0 :: ns.filter fun z => decide (1000000000000000000 ≤ z)).map .int))) S) (fun dn ρ S' => S' = S ∧ ∃ c : Int, 0 ≤ c ∧ ∃ a, ρ = [some (script ns), some (.d (.int salt)), some (.d (.int c)), a]) ns D.int (by simp [script]) ⟨rfl, salt, hs, none, rfl⟩ ?_ ?_
    · rintro dn z rest ρ S' _ ⟨rfl, c, hc, a, rfl⟩
      have hmul : opD .mul (.int c) (.int 31) = some (.d (.int (c * 31))) := by
        show (if small64 c || small64 31 then some (RV.d (.int (c * 31))) else none) = _
        rw [show small64 31 = true by decide, Bool.or_true, if_pos rfl]
      have hm : ∀ v : Int, opD .mod (.int v) (.int 2147483647) = some (.d (.int (v % 2147483647))) := fun v => rfl
      refine ⟨_, _, set_val (Q := (· = X.nx _ _)) (d := .int (seedF c z)) ?_ (by rw [exs_nil]; rfl), rfl, seedF c z, Int.emod_nonneg _ (by omega), some (.d (.int z)), rfl⟩
      simp [hmul, hm, seedF]
    · rintro ρ' S' ⟨rfl, c, hc, a, rfl⟩
      refine ⟨c, hc, ?_⟩
      have hcomp := ev_compM (g := T.g (callN T n)) (ρ := [some (script ns), some (.d (.int salt)), some (.d (.int c)), a]) (S := S') (elt := .var 3) (tg := .one 3) (it := .e (.var 0)) (ifs := .yes (.op .ge (.var 3) (.op .pow (.k (.int (10))) (.k (.int (18)))))) (own := [3]) ns D.int (fun z => decide (1000000000000000000 ≤ z)) D.int (by simp [script]) (lt_lim (by omega)) fun z hz => ⟨_, rfl, fun S'' => ⟨by rw [evO_yes]; exact tst_of (ev_op' (v := .d (.int z)) (by simp [wipe]) rfl (big_pow S'') (by simp)), fun _ => by simp [wipe]⟩⟩
      have hle : 2 + (ns.filter fun z => decide (1000000000000000000 ≤ z)).length ≤ lim := le_lim (by have := List.length_filter_le (fun z => decide ((1000000000000000000 : Int) ≤ z)) ns; omega)
      rw [exs_cons, ex_ret, ev_op' (v := .new (.lst [.int c, .int 0])) (by simp) rfl hcomp (by rw [op_ln, add_lst (by simpa using hle)]; rfl)]
      simp
  refine ⟨c :: 0 :: ns.filter fun z => decide (1000000000000000000 ≤ z), ⟨c, 0, _, rfl, hc, by omega, fun z hz => ?_⟩, ?_⟩
  · have := (List.mem_filter.mp hz).2
    simp at this
    omega
  · rw [call_def (H.at (by simp)) rfl]
    exact run_new rfl e
end
end PL
set_option linter.all false
set_option Elab.async false
set_option maxRecDepth 100000
set_option maxHeartbeats 1000000
namespace PL
open MI PB
/-! ### the law: parts, lots with a thing more -/
def withS (l : List Int) (t : Int) : List Int := sortI (ddI (l ++ [t]))
theorem ddI_id : ∀ {l : List Int}, l.Nodup → ddI l = l
  | [], _ => rfl
  | a :: l, h => by
    obtain ⟨h1, h2⟩ := List.nodup_cons.mp h
    rw [ddI, ddI_id h2, List.filter_eq_self.mpr fun b hb => ?_]
    have : b ≠ a := fun e => h1 (e ▸ hb)
    simpa using this
theorem withS_eq {l : List Int} {t : Int} (h : l.Nodup) (ht : t ∉ l) : withS l t = withT l t := by
  unfold withS withT
  rw [ddI_id]
  rw [List.nodup_append]
  exact ⟨h, by simp, fun a ha b hb e => ht (by rw [List.mem_singleton] at hb; rw [← hb, ← e]; exact ha)⟩
theorem mem_sortI {l : List Int} {i : Int} : i ∈ sortI l ↔ i ∈ l := (sortI_ok l).2.mem_iff
theorem Lot.nodup {m : Nat} {l : List Int} (h : Lot m l) : l.Nodup := h.2.imp fun {a b} q => by omega
theorem mem_withS {l : List Int} {t i : Int} : i ∈ withS l t ↔ i ∈ l ∨ i = t := by
  unfold withS
  rw [mem_sortI, ddI_mem]; simp
theorem mem_withT {l : List Int} {t i : Int} : i ∈ withT l t ↔ i ∈ l ∨ i = t := by
  unfold withT
  rw [mem_sortI]; simp
theorem Lot.withS {m : Nat} {l : List Int} (h : Lot m l) {t : Int} (h0 : 0 ≤ t) (h1 : t < (m : Int)) : Lot m (withS l t) := by
  refine ⟨fun i hi => ?_, sortI_asc (ddI_nodup _)⟩
  rcases mem_withS.mp hi with q | rfl
  · exact h.1 i q
  · exact ⟨h0, h1⟩
theorem Lot.nil {m : Nat} : Lot m [] := ⟨fun _ h => by simp at h, List.Pairwise.nil⟩
theorem Lot.rI {m : Nat} : Lot m (rI m) := ⟨fun i hi => mem_rI.mp hi, rI_asc m⟩
theorem Lot.sub {m : Nat} {l s : List Int} (h : Lot m l) (q : s.Sublist l) : Lot m s := ⟨fun i hi => h.1 i (q.subset hi), h.2.sublist q⟩
theorem partsU_nodup : ∀ (l : List Int) (a : List (List Int)), a.Nodup → l.Nodup → (∀ s ∈ a, ∀ t ∈ l, t ∉ s) → (l.foldl (fun f t => f ++ f.map (· ++ [t])) a).Nodup
  | [], a, h, _, _ => h
  | t :: l, a, h, hl, hd => by
    obtain ⟨h1, h2⟩ := List.nodup_cons.mp hl
    rw [List.foldl_cons]
    refine partsU_nodup l _ ?_ h2 ?_
    · rw [List.nodup_append]
      refine ⟨h, ?_, ?_⟩
      · unfold List.Nodup
        rw [List.pairwise_map]
        exact h.imp fun {a b} q e => q (List.append_cancel_right e)
      · intro u hu v hv e
        obtain ⟨w, hw, rfl⟩ := List.mem_map.mp hv
        exact hd u hu t List.mem_cons_self (by rw [e]; simp)
    · intro s hs u hu
      rcases List.mem_append.mp hs with q | q
      · exact hd s q u (List.mem_cons_of_mem _ hu)
      · obtain ⟨w, hw, rfl⟩ := List.mem_map.mp q
        intro z
        rcases List.mem_append.mp z with z | z
        · exact hd w hw u (List.mem_cons_of_mem _ hu) z
        · rw [List.mem_singleton] at z
          exact h1 (z ▸ hu)
theorem partsL_nodup {l : List Int} (h : l.Nodup) : (partsL l).Nodup := by
  unfold partsL sortL
  exact (sortA_spec totL (partsU l)).2.nodup_iff.mpr (partsU_nodup l _ (by simp) h fun s hs t _ => by rw [List.mem_singleton] at hs; simp [hs])
theorem nil_parts {l : List Int} : [] ∈ partsL l := by
  unfold partsL sortL
  rw [(sortA_spec totL (partsU l)).2.mem_iff]
  unfold partsU
  have : ∀ (l : List Int) (a : List (List Int)), [] ∈ a → [] ∈ l.foldl (fun f t => f ++ f.map (· ++ [t])) a := by
    intro l
    induction l with
    | nil => exact fun a h => h
    | cons t l ih => exact fun a h => ih _ (List.mem_append_left _ h)
  exact this l _ (by simp)
/-- lots as the law draws them -/
structure Lots (m : Nat) (ls : List (List Int)) : Prop where
  hm : 1 ≤ m
  hm5 : m ≤ 5
  nil : [] ∈ ls
  nd : ls.Nodup
  lot : ∀ l ∈ ls, Lot m l
  len : ls.length ≤ 64
section
variable {T : Txt} {x : Ix} {n : Nat} {S : Sto} {k : Nat}
theorem add_1 {l : List Int} {t : Int} (h : l.length ≤ 1000) : opD .add (Lo l) (.tup [.int t]) = some (.d (Lo (l ++ [t]))) := add_Lo (b := [t]) (le_lim (by simp; omega))
theorem l_parts_ok (H : Hs T x [n_l_parts]) {l : List Int} (hl : l.length ≤ 5) : callN T (n + 1) (x.f n_l_parts) [.d (.lst (l.map .int))] S = .ok (.new (.lst ((partsL l).map Lo))) S := by
  rw [call_def (H.at (by simp)) rfl]
  refine run_new rfl ?_
  refine set_lst (Q := (· = _)) (xs := [[]].map Lo) (by simp; rfl) ?_
  refine exs_loop (Q := (· = _)) (fun dn ρ S' => S' = S ∧ ∃ a b, ρ = [some (.d (.lst (l.map .int))), some (.d (.lst ((partsU dn).map Lo))), a, b]) l D.int (by simp) ⟨rfl, none, none, rfl⟩ ?_ ?_
  · rintro dn t rest ρ S' e ⟨rfl, a, b, rfl⟩
    have hd : dn.length ≤ 5 := by rw [e] at hl; simp at hl; omega
    have hp : (partsU dn).length ≤ 32 := by
      unfold partsU
      rw [partsU_len]
      simpa using pow_small hd
    refine ⟨_, _, set_lst (Q := (· = X.nx _ _)) (xs := (partsU (dn ++ [t])).map Lo) ?_ (by rw [exs_nil]; rfl), rfl, some (.d (.int t)), b, rfl⟩
    refine ev_op' (v := .d (.lst ((partsU dn).map Lo))) (by simp) rfl (ev_compM (partsU dn) Lo (fun _ => true) (fun s => Lo (s ++ [t])) (by simp) (lt_lim (by omega)) fun s hs => ⟨_, rfl, fun S'' => ⟨evO_no, fun _ => ⟨.d (Lo (s ++ [t])), ?_, rfl⟩⟩⟩) ?_
    · simp [wipe, add_1 (show s.length ≤ 1000 by have := (partsU_sub hs).length_le; omega)]
    rw [op_ln, List.filter_eq_self.mpr (fun _ _ => rfl), add_lst (by simp; exact le_lim (by omega)), of_some]
    congr 3
    unfold partsU
    rw [List.foldl_append]
    simp [Function.comp_def]
  · rintro ρ' S' ⟨rfl, a, b, rfl⟩
    simp [partsL]
theorem l_with_ok (H : Hs T x [n_l_with]) {l : List Int} {t : Int} (hl : l.length ≤ 60) : callN T (n + 1) (x.f n_l_with) [.d (Lo l), .d (.int t)] S = .ok (.d (Lo (withS l t))) S := by
  rw [call_def (H.at (by simp)) rfl]
  have e : ∀ l : List Int, l.length < 64 → sortSetF [Lo l] = some (.new (.lst ((sortI (ddI l)).map .int))) := fun l h => sortSet_tup h
  simp [runF, d_l_with, b_l_with, add_1 (show l.length ≤ 1000 by omega), e (l ++ [t]) (by simp; omega)]
  rfl
/-- l_parts(list(range(things))) -/
theorem ev_parts (H : Hs T x [n_l_parts]) {a : E} {ρ : Rho} {m : Nat} (h : ev (T.g (callN T (n + 1))) a ρ S = .ok (.d (.int m)) S) (hm : m ≤ 5) :
    ev (T.g (callN T (n + 1))) (.call (x.f n_l_parts) (.cons false (.lrange a) .nil)) ρ S = .ok (.new (.lst ((partsL (rI m)).map Lo))) S := by
  rw [ev_call, evh_cons, ev_rL h (by omega)]
  simp [l_parts_ok (H.sub (by simp)) (show (rI m).length ≤ 5 by rw [rI_len]; exact hm)]
theorem exs_step {g : G} {ρ ρ1 : Rho} {S1 : Sto} {s : MI.S} {r : Ss} {Q : X → Prop} (h : ex g s ρ S = .nx ρ1 S1) (q : Q (exs g r ρ1 S1)) : Q (exs g (.cons s r) ρ S) := by
  rw [exs_cons, h]; exact q
theorem exs_ifr {g : G} {ρ : Rho} {c : E} {a r : Ss} {b : Bool} {Q : X → Prop} (hc : tst (ev g c ρ S) = .ok b S) (kt : b = true → ∃ v S', exs g a ρ S = .ret v S' ∧ Q (.ret v S')) (kf : b = false → Q (exs g r ρ S)) : Q (exs g (.cons (.ite c a .nil) r) ρ S) := by
  rw [exs_cons, ex_ite, hc, then_ok]
  cases b with
  | true =>
    obtain ⟨v, S', e, q⟩ := kt rfl
    simp only [if_true, e]
    exact q
  | false =>
    simp only [Bool.false_eq_true, if_false, exs_nil]
    exact kf rfl
theorem exs_ret {g : G} {ρ : Rho} {e : E} {v : RV} {S1 : Sto} (h : ev g e ρ S = .ok v S1) : exs g (.cons (.ret e) .nil) ρ S = .ret v S1 := by
  rw [exs_cons, ex_ret, h]; rfl
end
end PL
set_option linter.all false
set_option Elab.async false
set_option maxRecDepth 100000
set_option maxHeartbeats 1000000
namespace PL
open MI PB
/-! ### a def's own cell above the source -/
def St (S : Sto) (k : Nat) (c : Cell) (S1 : Sto) : Prop := ∃ S', Nxt S k S' ∧ S1 = S' ++ [c]
section
variable {T : Txt} {x : Ix} {n : Nat} {S S1 S2 : Sto} {k : Nat} {c : Cell}
theorem St.src (h : St S k c S1) : Src S1 k := by
  obtain ⟨S', h, rfl⟩ := h
  exact h.src.push
theorem St.next (h : St S k c S1) (h2 : Nxt S1 k S2) : St S k c S2 := by
  obtain ⟨S', h, rfl⟩ := h
  obtain ⟨S'', h3, rfl⟩ := h2.app h.src.lt
  exact ⟨S'', h.trans h3, rfl⟩
theorem St.get (h : St S k c S1) : S1[S.length]? = some c := by
  obtain ⟨S', h, rfl⟩ := h
  rw [← h.len]; simp
theorem St.set (h : St S k c S1) {c' : Cell} : St S k c' (S1.set S.length c') := by
  obtain ⟨S', h, rfl⟩ := h
  refine ⟨S', h, ?_⟩
  rw [← h.len, List.set_append_right _ _ (Nat.le_refl _)]; simp
theorem St.take (h : St S k c S1) : Nxt S k (S1.take S.length) := by
  obtain ⟨S', h, rfl⟩ := h
  rw [← h.len, List.take_left]
  exact h
theorem St.new (h : Src S k) : St S k c (S ++ [c]) := ⟨S, h.refl, rfl⟩
theorem St.taken (h : St S k c S1) : S1 = S1.take S.length ++ [c] := by
  obtain ⟨S', h, rfl⟩ := h
  rw [← h.len, List.take_left]
/-- [.. for .. in .. if ..] that draws numbers -/
theorem ev_compN {α : Type} {g : G} {ρ : Rho} {elt : E} {tg : Tg} {it : MI.I} {ifs : O} {own : List Nat} (hk : Src S k) (xs : List α) (cc : α → D) (R : α → D → Prop) (hi : evI g it ρ S = .ok ⟨xs.map cc, none⟩ S) (hl : xs.length < lim)
    (h : ∀ a ∈ xs, ∃ ρ1, bindT (wipe ρ own) tg (cc a) = some ρ1 ∧ ∀ S', Src S' k → ∃ b S'', Nxt S' k S'' ∧ evO g ifs ρ1 S' = .ok b S'' ∧ (b = true → ∃ v d S3, Nxt S'' k S3 ∧ ev g elt ρ1 S'' = .ok v S3 ∧ v.data = some d ∧ R a d)) :
    ∃ (ys : List (α × D)) (S' : Sto), Nxt S k S' ∧ (ys.map Prod.fst).Sublist xs ∧ (ifs = .no → ys.map Prod.fst = xs) ∧ (∀ p ∈ ys, R p.1 p.2) ∧ ev g (.comp elt tg it ifs own) ρ S = .ok (.new (.lst (ys.map Prod.snd))) S' := by
  have e0 : ev g (.comp elt tg it ifs own) ρ S = (evI g it ρ S).bind fun s S => (compL (compW (wipe ρ own) tg (compTn (evO g ifs) (ev g elt) S.length)) s.still s.items (S ++ [.lst []])).bind fun _ S1 => outC S.length S1 := by rw [ev]
  rw [e0, hi, bind_ok, still_none']
  have main : ∀ (zs : List α) (acc : List D) (S' : Sto), (∀ a ∈ zs, a ∈ xs) → acc.length + zs.length < lim → Nxt S k S' → ∃ (ys : List (α × D)) (S'' : Sto), Nxt S k S'' ∧ (ys.map Prod.fst).Sublist zs ∧ (ifs = .no → ys.map Prod.fst = zs) ∧ (∀ p ∈ ys, R p.1 p.2) ∧ compL (compW (wipe ρ own) tg (compTn (evO g ifs) (ev g elt) S.length)) (fun _ => true) (zs.map cc) (S' ++ [.lst acc]) = .ok () (S'' ++ [.lst (acc ++ ys.map Prod.snd)]) := by
    intro zs
    induction zs with
    | nil => intro acc S' _ _ hN; exact ⟨[], S', hN, List.Sublist.refl _, fun _ => rfl, fun _ h => by simp at h, by simp [compL]⟩
    | cons a zs ih =>
      intro acc S' hm hla hN
      rw [List.length_cons] at hla
      obtain ⟨ρ1, h1, h2⟩ := h a (hm a List.mem_cons_self)
      obtain ⟨b, T1, n1, e1, h3⟩ := h2 (S' ++ [.lst acc]) hN.src.push
      obtain ⟨T2, n2, rfl⟩ := n1.app hN.src.lt
      have hN2 := hN.trans n2
      rw [List.map_cons]
      cases b with
      | false =>
        obtain ⟨ys, S'', q1, q2, q3, q4, q5⟩ := ih acc T2 (fun b hb => hm b (List.mem_cons_of_mem _ hb)) (by omega) hN2
        refine ⟨ys, S'', q1, q2.cons a, fun e => ?_, q4, ?_⟩
        · subst e; rw [evO_no] at e1; cases e1
        · unfold compL
          rw [if_pos rfl]
          unfold compW
          rw [h1]
          dsimp only
          unfold compTn
          rw [e1, bind_ok, if_neg (by simp)]
          exact q5
      | true =>
        obtain ⟨v, d, T3, n3, e3, hv, hR⟩ := h3 rfl
        obtain ⟨T4, n4, rfl⟩ := n3.app n2.src.lt
        have hN3 := hN2.trans n4
        obtain ⟨ys, S'', q1, q2, q3, q4, q5⟩ := ih (acc ++ [d]) T4 (fun b hb => hm b (List.mem_cons_of_mem _ hb)) (by simp; omega) hN3
        refine ⟨(a, d) :: ys, S'', q1, q2.cons₂ a, fun e => by rw [List.map_cons, q3 e], fun p hp => ?_, ?_⟩
        · rcases List.mem_cons.mp hp with rfl | hp
          · exact hR
          · exact q4 p hp
        · unfold compL
          rw [if_pos rfl]
          have step : compW (wipe ρ own) tg (compTn (evO g ifs) (ev g elt) S.length) (cc a) (S' ++ [.lst acc]) = .ok () (T4 ++ [.lst (acc ++ [d])]) := by
            unfold compW
            rw [h1]
            dsimp only
            unfold compTn
            rw [e1, bind_ok, if_pos rfl, e3, bind_ok, hv, of_some, bind_ok, ← hN3.len]
            exact push_last (by omega)
          rw [step]
          simpa using q5
  obtain ⟨ys, S'', q1, q2, q3, q4, q5⟩ := main xs [] S (fun _ h => h) (by simpa using hl) hk.refl
  exact ⟨ys, S'', q1, q2, q3, q4, by rw [q5, bind_ok, ← q1.len, out_last]; rfl⟩
theorem below_st (H : Hs T x [n_l_below]) {size : Int} (h : St S k c S1) (h1 : 1 ≤ size) (h2 : size ≤ 1000) :
    ∃ r S2, 0 ≤ r ∧ r < size ∧ St S k c S2 ∧ callN T (n + 1) (x.f n_l_below) [.r k, .d (.int size)] S1 = .ok (.d (.int r)) S2 := by
  obtain ⟨r, S2, q1, q2, q3, q4⟩ := below_nx (n := n) H h.src h1 h2
  exact ⟨r, S2, q1, q2, h.next q3, q4⟩
theorem pick_st (H : Hs T x [n_l_below, n_l_pick]) {xs : List D} (h : St S k c S1) (h1 : xs ≠ []) (h2 : xs.length ≤ 1000) :
    ∃ d ∈ xs, ∃ S2, St S k c S2 ∧ callN T (n + 2) (x.f n_l_pick) [.r k, .d (.lst xs)] S1 = .ok (.d d) S2 := by
  obtain ⟨d, hd, S2, q3, q4⟩ := pick_nx (n := n) (v := .d (.lst xs)) H h.src h1 h2 rfl fun S' _ => .inl rfl
  exact ⟨d, hd, S2, h.next q3, q4⟩
theorem pick_own (H : Hs T x [n_l_below, n_l_pick]) {xs : List D} (h : St S k (.lst xs) S1) (h1 : xs ≠ []) (h2 : xs.length ≤ 1000) :
    ∃ d ∈ xs, ∃ S2, St S k (.lst xs) S2 ∧ callN T (n + 2) (x.f n_l_pick) [.r k, .r S.length] S1 = .ok (.d d) S2 := by
  obtain ⟨d, hd, S2, q3, q4⟩ := pick_nx (n := n) (v := .r S.length) (xs := xs) H h.src h1 h2 rfl fun S' n => .inl (by
    simp [RV.see, (h.next n).get])
  exact ⟨d, hd, S2, h.next q3, q4⟩
theorem pick_nxl (H : Hs T x [n_l_below, n_l_pick]) {xs : List D} (h : Src S k) (h1 : xs ≠ []) (h2 : xs.length ≤ 1000) :
    ∃ d ∈ xs, ∃ S2, Nxt S k S2 ∧ callN T (n + 2) (x.f n_l_pick) [.r k, .d (.lst xs)] S = .ok (.d d) S2 := pick_nx (n := n) (v := .d (.lst xs)) H h h1 h2 rfl fun S' _ => .inl rfl
/-- how l_lots ends -/
def LotsX (S : Sto) (k m : Nat) (X : X) : Prop := ∃ ls S1, Lots m ls ∧ Nxt S k (S1.take S.length) ∧ X = .ret (.d (.tup (ls.map Lo))) S1
end
end PL
set_option linter.all false
set_option Elab.async false
set_option maxRecDepth 100000
set_option maxHeartbeats 1000000
namespace PL
open MI PB
section
variable {T : Txt} {x : Ix} {n : Nat} {S S1 S2 : Sto} {k : Nat} {g : G} {ρ : Rho}
theorem exs_loopS {α : Type} {i : Nat} {it : MI.I} {b r : Ss} {Q : X → Prop} (P : List α → Rho → Sto → Prop) (xs : List α) (c : α → D) (h : evI g it ρ S = .ok ⟨xs.map c, none⟩ S1) (hP : P [] ρ S1)
    (st : ∀ (dn : List α) (a : α) (rest : List α) (ρ : Rho) (S : Sto), xs = dn ++ a :: rest → P dn ρ S → ∃ ρ' S', exs g b (ρ.set i (some (.d (c a)))) S = .nx ρ' S' ∧ P (dn ++ [a]) ρ' S')
    (q : ∀ ρ' S', P xs ρ' S' → Q (exs g r ρ' S')) : Q (exs g (.cons (.for_ (.one i) it b) r) ρ S) := by
  obtain ⟨ρ', S', h1, h2⟩ := forL_nxM (b := fun x ρ S => match bindT ρ (.one i) x with
      | some ρ1 => exs g b ρ1 S
      | none => .fail) (c := c) xs P xs [] ρ S1 rfl hP fun dn a rest ρ S ha hp => st dn a rest ρ S ha hp
  have e : ex g (.for_ (.one i) it b) ρ S = .nx ρ' S' := by
    rw [ex, h, then_ok, still_none', ← h1] <;> rfl
  rw [exs_cons, e]
  exact q ρ' S' h2
theorem evI_rIS {a : E} {m : Nat} (h : ev g a ρ S = .ok (.d (.int m)) S1) (hm : m ≤ 1000) : evI g (.range1 a) ρ S = .ok ⟨(rI m).map .int, none⟩ S1 := by
  rw [evI_range1, h, bind_ok]
  show (if rangeOk 0 (m : Int) = true then R.ok (Src.mk (rangeD 0 (m : Int).toNat) none) S1 else R.fail) = _
  rw [if_pos (range_ok hm), Int.toNat_natCast, rangeD_eq]
theorem op_ref {o : Op} {a : List Int} {j : Nat} {xs : List D} (h : S[j]? = some (.lst xs)) : opR g o (.d (Lo a)) (.r j) S = R.of (opD o (Lo a) (.lst xs)) S := by
  unfold opR Lo; simp [RV.see, h]
theorem op_refl {o : Op} {ys : List D} {j : Nat} {xs : List D} (h : S[j]? = some (.lst xs)) : opR g o (.r j) (.new (.lst ys)) S = R.of (opD o (.lst xs) (.lst ys)) S := by
  unfold opR; simp [RV.see, h]; rfl
theorem set_valS {i : Nat} {b : Bool} {e : E} {r : Ss} {d : D} {Q : X → Prop} (h : ev g e ρ S = .ok (.d d) S1) (k : Q (exs g r (ρ.set i (some (.d d))) S1)) : Q (exs g (.cons (.set i b e) r) ρ S) := by
  rw [exs_cons, ex_set, h]; exact k
theorem set_lstS {i : Nat} {e : E} {r : Ss} {xs : List D} {Q : X → Prop} (h : ev g e ρ S = .ok (.new (.lst xs)) S1) (k : Q (exs g r (ρ.set i (some (.d (.lst xs)))) S1)) : Q (exs g (.cons (.set i false e) r) ρ S) := by
  rw [exs_cons, ex_set, h]; exact k
theorem ev_opS {o : Op} {a b : E} {v v' w r : RV} (ha : ev g a ρ S = .ok v S) (hv : v.hand = some v') (hb : ev g b ρ S = .ok w S1) (ho : opR g o v' w S1 = .ok r S1) : ev g (.op o a b) ρ S = .ok r S1 := by
  rw [ev_op, ha, bind_ok, hv, of_some, bind_ok, hb, bind_ok, ho]
theorem exs_ifk {c : E} {a r : Ss} {b : Bool} {Q : X → Prop} (hc : tst (ev g c ρ S) = .ok b S) (kt : b = true → ∃ ρ' S', exs g a ρ S = .nx ρ' S' ∧ Q (exs g r ρ' S')) (kf : b = false → Q (exs g r ρ S)) : Q (exs g (.cons (.ite c a .nil) r) ρ S) := by
  rw [exs_cons, ex_ite, hc, then_ok]
  cases b with
  | true =>
    obtain ⟨v, S', e, q⟩ := kt rfl
    simp only [if_true, e]
    exact q
  | false =>
    simp only [Bool.false_eq_true, if_false, exs_nil]
    exact kf rfl
theorem ev_call2 {f : Nat} {a b : E} {v v' w w' : RV} {r : R RV} (ha : ev g a ρ S = .ok v S1) (hv : v.hand = some v') (hb : ev g b ρ S1 = .ok w S2) (hw : w.hand = some w') (hc : g.call f [v', w'] S2 = r) : ev g (.call f (.cons false a (.cons false b .nil))) ρ S = r := by
  rw [ev_call, evh_cons, ha, bind_ok, hv, of_some, bind_ok, evh_cons, hb, bind_ok, hw, of_some, bind_ok, evh_nil, bind_ok, bind_ok, bind_ok, hc]
theorem ev_tuple1 {a : E} {xs : List D} (h : ev g a ρ S = .ok (.new (.lst xs)) S1) : ev g (.bi .tuple (.cons false a .nil)) ρ S = .ok (.d (.tup xs)) S1 := by
  rw [ev_bi, evh_cons, h]; simp
theorem ev_src {a : E} {xs : List D} (h : ev g a ρ S = .ok (.new (.lst xs)) S1) : evI g (.e a) ρ S = .ok ⟨xs, none⟩ S1 := by
  rw [evI_e, h]; simp
/-- what holds of the lots found so far -/
structure Fnd (m : Nat) (f : List (List Int)) : Prop where
  nil : [] ∈ f
  nd : f.Nodup
  lot : ∀ l ∈ f, Lot m l
theorem Fnd.add {m : Nat} {f : List (List Int)} (h : Fnd m f) {l : List Int} (hl : Lot m l) (hn : l ∉ f) : Fnd m (f ++ [l]) := by
  refine ⟨List.mem_append_left _ h.nil, ?_, fun a ha => ?_⟩
  · rw [List.nodup_append]
    exact ⟨h.nd, by simp, fun a ha b hb e => hn (by rw [List.mem_singleton] at hb; rw [← hb, ← e]; exact ha)⟩
  · rcases List.mem_append.mp ha with q | q
    · exact h.lot a q
    · rw [List.mem_singleton] at q; rw [q]; exact hl
theorem Fnd.ne {m : Nat} {f : List (List Int)} (h : Fnd m f) : f.map Lo ≠ [] := fun e => by
  rw [List.map_eq_nil_iff] at e
  have := h.nil
  rw [e] at this
  simp at this
theorem Fnd.of {m : Nat} {f : List (List Int)} (h : Fnd m f) (h1 : 1 ≤ m) (h5 : m ≤ 5) (hl : f.length ≤ 64) : Lots m f := ⟨h1, h5, h.nil, h.nd, h.lot, hl⟩
theorem Fnd.rev {m : Nat} {f : List (List Int)} (h : Fnd m f) : Fnd m f.reverse := ⟨List.mem_reverse.mpr h.nil, by unfold List.Nodup; rw [List.pairwise_reverse]; exact h.nd.imp fun {a b} q => q.symm, fun l hl => h.lot l (List.mem_reverse.mp hl)⟩
theorem parts_lot {m : Nat} {s : List Int} (h : s ∈ partsL (rI m)) : Lot m s := Lot.rI.sub (partsL_sub h)
theorem parts_le {m : Nat} (h : m ≤ 5) : (partsL (rI m)).length ≤ 32 := by rw [partsL_len, rI_len]; exact pow_small h
theorem lots_last {m j : Nat} {kd : Int} {f : List (List Int)} {a b c d : Option RV} (hf : Fnd m f) (h1 : 1 ≤ m) (h5 : m ≤ 5) (hl : f.length ≤ 64) (hj : S2[j]? = some (.lst (f.map Lo))) (hN : Nxt S k (S2.take S.length)) :
    LotsX S k m (exs g (.cons (.ret (.ite (.op .lt (.var 3) (.k (.int (3)))) (.bi .tuple (.cons false (.rev (.var 2)) .nil)) (.bi .tuple (.cons false (.var 2) .nil)))) .nil) [some (.r k), some (.d (.int m)), some (.r j), some (.d (.int kd)), a, b, c, d] S2) := by
  have hs : (RV.r j).see S2 = some (.lst (f.map Lo)) := by simp [RV.see, hj]
  by_cases h : kd < 3
  · refine ⟨f.reverse, S2, hf.rev.of h1 h5 (by simpa using hl), hN, exs_ret ?_⟩
    simp [h, hs, revD]
  · refine ⟨f, S2, hf.of h1 h5 hl, hN, exs_ret ?_⟩
    simp [h, hs]
theorem l_lots_ok (H : Hs T x [n_l_below, n_l_pick, n_l_parts, n_l_with, n_l_lots]) (hS : Src S k) {m : Nat} (h1 : 1 ≤ m) (h5 : m ≤ 5) :
    ∃ ls S', Lots m ls ∧ Nxt S k S' ∧ callN T (n + 3) (x.f n_l_lots) [.r k, .d (.int m)] S = .ok (.d (.tup (ls.map Lo))) S' := by
  suffices q : LotsX S k m (exs (T.g (callN T (n + 2))) (b_l_lots x) [some (.r k), some (.d (.int m)), none, none, none, none, none, none] S) by
    obtain ⟨ls, S1, q1, q2, q3⟩ := q
    refine ⟨ls, _, q1, q2, ?_⟩
    rw [call_def (H.at (by simp)) rfl]
    unfold runF
    rw [if_pos (by rfl)]
    have e' : exs (T.g (callN T (n + 2))) (d_l_lots x).body (List.map some [.r k, .d (.int m)] ++ List.replicate ((d_l_lots x).nn - (d_l_lots x).np) none) S = .ret (.d (.tup (ls.map Lo))) S1 := q3
    rw [e']
    simp
  obtain ⟨kd, S1, b1, b2, b3, b4⟩ := below_st (n := n + 1) (H.sub (by simp)) (St.new (c := .lst [.tup []]) hS) (size := 7) (by omega) (by omega)
  have b4' : callN T (n + 2) (x.f n_l_below) [.r k, .d (.int 7)] (S ++ [.lst [.tup []]]) = .ok (.d (.int kd)) S1 := b4
  unfold b_l_lots
  refine exs_step (Q := LotsX S k m) (ρ1 := [some (.r k), some (.d (.int m)), some (.r S.length), some (.d (.int kd)), none, none, none, none]) (S1 := S1) (by simp [b4']) ?_
  refine exs_ifr (Q := LotsX S k m) (b := kd == 0) (by simp) (fun h0 => ?_) fun h0 => ?_
  · obtain ⟨mo, S2, c1, c2, c3, c4⟩ := below_st (n := n + 1) (H.sub (by simp)) b3 (size := (m : Int) + 1) (by omega) (by omega)
    have c4' : callN T (n + 2) (x.f n_l_below) [.r k, .d (.int ((m : Int) + 1))] S1 = .ok (.d (.int mo)) S2 := c4
    refine ⟨.d (.tup (((partsL (rI m)).filter fun l => decide ((l.length : Int) ≤ mo)).map Lo)), S2, set_valS (Q := (· = _)) (d := .int mo) (S1 := S2) (by simp [c4']) (exs_ret (ev_tuple1 ?_)), ⟨_, S2, ?_, c3.take, rfl⟩⟩
    · exact ev_compM (partsL (rI m)) Lo (fun l => decide ((l.length : Int) ≤ mo)) Lo (ev_src (ev_parts (H.sub (by simp)) (by simp) h5)) (lt_lim (by have := parts_le h5; omega)) fun l hl => ⟨_, rfl, fun S' => ⟨by simp [wipe], fun _ => by simp [wipe]⟩⟩
    · exact ⟨h1, h5, List.mem_filter.mpr ⟨nil_parts, by simp; omega⟩, (partsL_nodup Lot.rI.nodup).sublist List.filter_sublist, fun l hl => parts_lot (List.mem_filter.mp hl).1, Nat.le_trans (List.length_filter_le _ _) (by have := parts_le h5; omega)⟩
  refine exs_ifr (Q := LotsX S k m) (b := kd == 6) (by simp) (fun h6 => ?_) fun h6 => ?_
  · have hW := ev_compM (g := T.g (callN T (n + 2))) (ρ := [some (.r k), some (.d (.int m)), some (.r S.length), some (.d (.int kd)), none, none, none, none]) (S := S1) (elt := .var 7) (tg := .one 7) (it := .e (.call (x.f n_l_parts) (.cons false (.lrange (.var 1)) .nil))) (ifs := .yes (.op .gt (.bi .len (.cons false (.var 7) .nil)) (.k (.int (1))))) (own := [7]) (partsL (rI m)) Lo (fun l => decide (1 < (l.length : Int))) Lo (ev_src (ev_parts (H.sub (by simp)) (by simp) h5)) (lt_lim (by have := parts_le h5; omega)) fun l hl => ⟨_, rfl, fun S' => ⟨by simp [wipe], fun _ => by simp [wipe]⟩⟩
    have hwl : ((partsL (rI m)).filter fun l => decide (1 < (l.length : Int))).length ≤ 32 := Nat.le_trans (List.length_filter_le _ _) (parts_le h5)
    obtain ⟨ys, S2, c1, c2, c3, c4, c5⟩ := ev_compN (g := T.g (callN T (n + 2))) (ρ := [some (.r k), some (.d (.int m)), some (.r S.length), some (.d (.int kd)), none, some (.d (.lst (((partsL (rI m)).filter fun l => decide (1 < (l.length : Int))).map Lo))), none, none]) (elt := .var 7) (tg := .one 7) (it := .e (.var 5)) (ifs := .yes (.op .eq (.call (x.f n_l_below) (.cons false (.var 0) (.cons false (.k (.int (3))) .nil))) (.k (.int (0))))) (own := [7]) b3.src ((partsL (rI m)).filter fun l => decide (1 < (l.length : Int))) Lo (fun l d => d = Lo l) (by simp) (lt_lim (by omega)) fun l hl => ⟨_, rfl, fun S' hS' => by
      obtain ⟨r, S'', d1, d2, d3, d4⟩ := below_nx (T := T) (x := x) (n := n + 1) (H.sub (by simp)) hS' (size := 3) (by omega) (by omega)
      have d4' : callN T (n + 2) (x.f n_l_below) [.r k, .d (.int 3)] S' = .ok (.d (.int r)) S'' := d4
      exact ⟨r == 0, S'', d3, by simp [wipe, d4'], fun _ => ⟨.d (Lo l), Lo l, S'', d3.src.refl, by simp [wipe], rfl, rfl⟩⟩⟩
    have eys : ys.map Prod.snd = (ys.map Prod.fst).map Lo := by
      rw [List.map_map]
      exact List.map_congr_left fun p hp => c4 p hp
    have hyl : ys.length ≤ 32 := by have := c2.length_le; rw [List.length_map] at this; omega
    refine ⟨.d (.tup (([] :: ys.map Prod.fst).map Lo)), S2, ?_, ⟨[] :: ys.map Prod.fst, S2, ?_, (b3.next c1).take, rfl⟩⟩
    · rw [exs_cons, ex_set, hW, then_ok, set_new]
      refine exs_ret (ev_tuple1 ?_)
      refine ev_opS (v := .new (.lst [.tup []])) (v' := .d (.lst [.tup []])) (by simp) rfl c5 ?_
      rw [op_ln, add_lst (le_lim (by simp; omega)), eys]
      rfl
    · refine ⟨h1, h5, List.mem_cons_self, List.nodup_cons.mpr ⟨fun hm => ?_, ((partsL_nodup Lot.rI.nodup).sublist List.filter_sublist).sublist c2⟩, fun l hl => ?_, by simp; omega⟩
      · have := (List.mem_filter.mp (c2.subset hm)).2
        simp at this
      · rcases List.mem_cons.mp hl with rfl | hl
        · exact Lot.nil
        · exact parts_lot (List.mem_filter.mp (c2.subset hl)).1
  obtain ⟨d0, hd0, S2, c1, c2⟩ := pick_st (n := n) (H.sub (by simp)) b3 (xs := [.int 12, .int 12, .int 40]) (by simp) (by simp)
  obtain ⟨p, rfl, hp1, hp2⟩ : ∃ p : Int, d0 = .int p ∧ 1 ≤ p ∧ p ≤ 40 := by
    simp at hd0
    rcases hd0 with rfl | rfl <;> exact ⟨_, rfl, by omega, by omega⟩
  obtain ⟨r, S3, e1, e2, e3, e4⟩ := below_st (n := n + 1) (H.sub (by simp)) c1 (size := p) hp1 (by omega)
  have e4' : callN T (n + 2) (x.f n_l_below) [.r k, .d (.int p)] S2 = .ok (.d (.int r)) S3 := e4
  obtain ⟨q, hq, hq2⟩ : ∃ q : Nat, 2 + r = (q : Int) ∧ q ≤ 42 := ⟨(2 + r).toNat, by omega, by omega⟩
  refine exs_loopS (Q := LotsX S k m) (S1 := S3) (fun dn ρ S' => ∃ f : List (List Int), f.length ≤ 1 + dn.length ∧ Fnd m f ∧ St S k (.lst (f.map Lo)) S' ∧ ∃ a b, ρ = [some (.r k), some (.d (.int m)), some (.r S.length), some (.d (.int kd)), none, none, a, b]) (rI q) D.int (evI_rIS (by simp [c2, e4', hq]) (by omega)) ⟨[[]], by simp, ⟨by simp, by simp, fun l hl => by rw [List.mem_singleton] at hl; rw [hl]; exact Lot.nil⟩, e3, none, none, rfl⟩ ?_ ?_
  · rintro dn i rest ρ S4 hr ⟨f, f1, f2, f3, a, b, rfl⟩
    have hfl : f.length ≤ 50 := by
      have := congrArg List.length hr
      simp at this
      omega
    obtain ⟨d1, hd1, S5, g1, g2⟩ := pick_own (n := n) (H.sub (by simp)) f3 f2.ne (by simp; omega)
    obtain ⟨l, hl, rfl⟩ := List.mem_map.mp hd1
    obtain ⟨t, S6, t1, t2, t3, t4⟩ := below_st (n := n + 1) (H.sub (by simp)) g1 (size := (m : Int)) (by omega) (by omega)
    have t4' : callN T (n + 2) (x.f n_l_below) [.r k, .d (.int m)] S5 = .ok (.d (.int t)) S6 := t4
    have hlot := f2.lot l hl
    have hll := hlot.len
    have hw : callN T (n + 2) (x.f n_l_with) [.d (Lo l), .d (.int t)] S6 = .ok (.d (Lo (withS l t))) S6 := l_with_ok (n := n + 1) (H.sub (by simp)) (by omega)
    have hget := t3.get
    by_cases hin : withS l t ∈ f
    · refine ⟨_, _, set_valS (Q := (· = X.nx _ _)) (d := Lo (withS l t)) (S1 := S6) (by simp [g2, t4', hw]) ?_, f, by simp; omega, f2, t3, some (.d (.int i)), some (.d (Lo (withS l t))), rfl⟩
      simp [op_ref hget, hin]
    · refine ⟨_, _, set_valS (Q := (· = X.nx _ _)) (d := Lo (withS l t)) (S1 := S6) (by simp [g2, t4', hw]) ?_, f ++ [withS l t], by simp; omega, f2.add (hlot.withS t1 (by omega)) hin, t3.set (c' := .lst ((f ++ [withS l t]).map Lo)), some (.d (.int i)), some (.d (Lo (withS l t))), rfl⟩
      have hap : appC S6 S.length [Lo (withS l t)] = .ok (.d .non) (S6.set S.length (.lst ((f ++ [withS l t]).map Lo))) := by
        unfold appC
        rw [hget]
        simp only [List.length_map, List.length_cons, List.length_nil]
        rw [if_pos (le_lim (by omega)), List.map_append]
        rfl
      simp [op_ref hget, hin, isL_of hget, hap]
  · rintro ρ S4 ⟨f, f1, f2, f3, a, b, rfl⟩
    rw [rI_len] at f1
    have hget := f3.get
    refine exs_ifk (Q := LotsX S k m) (b := kd == 1) (by simp) (fun h1' => ?_) fun h1' => ?_
    · obtain ⟨d1, hd1, S5, g1, g2⟩ := pick_st (n := n) (H.sub (by simp)) f3 (xs := (partsL (rI m)).map Lo) (by
        have := nil_parts (l := rI m)
        intro e
        rw [List.map_eq_nil_iff] at e
        rw [e] at this; simp at this) (by simp; have := parts_le h5; omega)
      obtain ⟨l, hl, rfl⟩ := List.mem_map.mp hd1
      have hget5 := g1.get
      have hs5 : (RV.r S.length).see S5 = some (.lst (f.map Lo)) := by simp [RV.see, hget5]
      have hpa : ev (T.g (callN T (n + 2))) (.call (x.f n_l_parts) (.cons false (.lrange (.var 1)) .nil)) [some (.r k), some (.d (.int m)), some (.r S.length), some (.d (.int kd)), none, none, a, b] S4 = .ok (.new (.lst ((partsL (rI m)).map Lo))) S4 := ev_parts (n := n + 1) (H.sub (by simp)) (by simp) h5
      have hpi : ev (T.g (callN T (n + 2))) (.call (x.f n_l_pick) (.cons false (.var 0) (.cons false (.call (x.f n_l_parts) (.cons false (.lrange (.var 1)) .nil)) .nil))) [some (.r k), some (.d (.int m)), some (.r S.length), some (.d (.int kd)), none, none, a, b] S4 = .ok (.d (Lo l)) S5 := by
        exact ev_call2 (S1 := S4) (S2 := S4) (v := .r k) (v' := .r k) (w := .new (.lst ((partsL (rI m)).map Lo))) (w' := .d (.lst ((partsL (rI m)).map Lo))) (by simp) rfl hpa rfl g2
      by_cases hin : l ∈ f
      · refine ⟨[some (.r k), some (.d (.int m)), some (.r S.length), some (.d (.int kd)), none, none, a, some (.d (Lo l))], S5, ?_, lots_last f2 h1 h5 (by omega) hget5 g1.take⟩
        rw [exs_cons, ex_set, hpi, then_ok, set_d]
        simp [op_ref hget5, hin]
      · have hS : (S5 ++ [Cell.lst ((f ++ [l]).map Lo)])[S5.length]? = some (.lst ((f ++ [l]).map Lo)) := by simp
        have hle : S.length ≤ S5.length := by
          have := (List.getElem?_eq_some_iff.mp hget5).1
          omega
        refine ⟨[some (.r k), some (.d (.int m)), some (.r S5.length), some (.d (.int kd)), none, none, a, some (.d (Lo l))], S5 ++ [.lst ((f ++ [l]).map Lo)], ?_, lots_last (f2.add (parts_lot hl) hin) h1 h5 (by simp; omega) hS (by rw [List.take_append_of_le_length hle]; exact g1.take)⟩
        rw [exs_cons, ex_set, hpi, then_ok, set_d]
        simp [op_ref hget5, hin]
        rw [op_refl hget5, add_lst (le_lim (by simp; omega))]
        simp
    · exact lots_last f2 h1 h5 (by omega) hget f3.take
end
end PL
set_option linter.all false
set_option Elab.async false
set_option maxRecDepth 100000
set_option maxHeartbeats 1000000
namespace PL
open MI PB
section
variable {T : Txt} {x : Ix} {n : Nat} {S S1 S2 : Sto} {k : Nat} {g : G} {ρ : Rho}
theorem enumD_eq {α : Type} (xs : List α) (c : α → D) : enumD (xs.map c) = xs.zipIdx.map fun p => .tup [.int (p.2 : Nat), c p.1] := by
  unfold enumD
  rw [List.mapIdx_eq_zipIdx_map, List.zipIdx_map, List.map_map]
  rfl
theorem exs_enum {α : Type} {i j : Nat} {it : MI.I} {b r : Ss} {Q : X → Prop} (P : List α → Rho → Sto → Prop) (xs : List α) (c : α → D) (h : evI g it ρ S = .ok ⟨enumD (xs.map c), none⟩ S) (hP : P [] ρ S)
    (st : ∀ (dn : List α) (a : α) (rest : List α) (ρ : Rho) (S : Sto), xs = dn ++ a :: rest → P dn ρ S → ∃ ρ' S', exs g b ((ρ.set i (some (.d (.int (dn.length : Nat))))).set j (some (.d (c a)))) S = .nx ρ' S' ∧ P (dn ++ [a]) ρ' S')
    (q : ∀ ρ' S', P xs ρ' S' → Q (exs g r ρ' S')) : Q (exs g (.cons (.for_ (.two i j) it b) r) ρ S) := by
  rw [enumD_eq] at h
  have fst : xs.zipIdx.map Prod.fst = xs := by
    refine List.ext_getElem? fun i => ?_
    rw [List.getElem?_map, List.getElem?_zipIdx]
    cases xs[i]? <;> rfl
  obtain ⟨ρ', S', h1, h2⟩ := forL_nxM (b := fun x ρ S => match bindT ρ (.two i j) x with
      | some ρ1 => exs g b ρ1 S
      | none => .fail) (c := fun p : α × Nat => D.tup [.int (p.2 : Nat), c p.1]) xs.zipIdx (fun dn ρ S => P (dn.map Prod.fst) ρ S) xs.zipIdx [] ρ S rfl hP fun dn a rest ρ S ha hp => by
    have e : xs = dn.map Prod.fst ++ a.1 :: rest.map Prod.fst := by
      have := congrArg (List.map Prod.fst) ha
      rw [fst] at this
      simpa using this
    have e2 : a.2 = dn.length := by
      have h3 : xs.zipIdx[dn.length]? = some a := by rw [ha]; simp
      rw [List.getElem?_zipIdx] at h3
      cases h4 : xs[dn.length]? with
      | none => rw [h4] at h3; cases h3
      | some y => rw [h4] at h3; cases h3; simp
    obtain ⟨ρ', S', q1, q2⟩ := st (dn.map Prod.fst) a.1 (rest.map Prod.fst) ρ S e hp
    refine ⟨ρ', S', ?_, by simpa using q2⟩
    rw [List.length_map] at q1
    show exs g b ((ρ.set i (some (.d (.int (a.2 : Nat))))).set j (some (.d (c a.1)))) S = _
    rw [e2]
    exact q1
  have e : ex g (.for_ (.two i j) it b) ρ S = .nx ρ' S' := by
    rw [ex, h, then_ok, still_none', ← h1] <;> rfl
  rw [exs_cons, e]
  rw [fst] at h2
  exact q ρ' S' h2
theorem evI_rZ {a : E} {i : Int} (h : ev g a ρ S = .ok (.d (.int i)) S) (h0 : -1000 ≤ i) (hm : i ≤ 1000) : evI g (.range1 a) ρ S = .ok ⟨(rI i.toNat).map .int, none⟩ S := by
  rw [evI_range1, h, bind_ok]
  have q : rangeOk 0 i = true := by
    unfold rangeOk
    rw [decide_eq_true_iff]
    omega
  show (if rangeOk 0 i = true then R.ok (Src.mk (rangeD 0 i.toNat) none) S else R.fail) = _
  rw [if_pos q, rangeD_eq]
/-- what the text has beside its defs -/
structure Env (T : Txt) (x : Ix) : Prop where
  init : T.init[x.c c_Kind]? = some (x.f n_Kind___init__)
  most : T.globs[x.g g_MOST_THINGS]? = some (.int 5)
theorem isFrom_i {lo hi i : Int} (h1 : lo ≤ i) (h2 : i ≤ hi) : fromB lo hi (.int i) = true := by simp [fromB, h1, h2]
theorem rising_lot (H : Hs T x [n_is_integer, n_is_from, n_is_rising]) {m : Nat} {l : List Int} (h : Lot m l) (hm : m ≤ 5) : callN T (n + 3) (x.f n_is_rising) [.d (Lo l), .d (.int m)] S = .ok (.d (.bl true)) S := by
  have hl := h.len
  rw [call_def (H.at (by simp)) rfl]
  refine run_d rfl ?_
  show exs _ (b_is_rising x) [some (.d (Lo l)), some (.d (.int m)), none, none] S = _
  unfold b_is_rising
  refine exs_ifr (Q := (· = _)) (b := false) ?_ (fun h => by cases h) fun _ => exs_ret ?_
  · refine tst_or' (p := false) (q := false) (tst_not' (p := true) ?_) fun _ => tst_not' (p := true) (tst_of ?_)
    · simp [isTF, Lo, objOk, isTy]
    · rw [ev_allC l D.int (fun i => true) (by simp) (lt_lim (by omega)) fun i hi => ⟨_, rfl, fun S' => ?_⟩]
      · simp
      · have := h.1 i hi
        simp [wipe, is_from_ok (n := n) (H.sub (by simp)) (show objOk x.obs (.int i) = true from rfl), isFrom_i this.1 (show i ≤ (m : Int) - 1 by omega)]
  · rw [ev_allC (rI (((l.length : Nat) : Int) - 1).toNat) D.int (fun i => true) (evI_rZ (by simp) (by omega) (by omega)) (by rw [rI_len]; exact lt_lim (by omega)) fun i hi => ⟨_, rfl, fun S' => ?_⟩]
    · simp
    · obtain ⟨h0, h1⟩ := mem_rI.mp hi
      have g1 : subD (Lo l) (.int i) = some (.int (l[i.toNat]'(by omega))) := by
        simp only [Lo, subD, ixAt_ok (l := (l.map D.int).length) h0 (by simp; omega)]
        simp
      have g2 : subD (Lo l) (.int (i + 1)) = some (.int (l[(i + 1).toNat]'(by omega))) := by
        simp only [Lo, subD, ixAt_ok (l := (l.map D.int).length) (show 0 ≤ i + 1 by omega) (by simp; omega)]
        simp
      have lt := List.pairwise_iff_getElem.mp h.2 i.toNat (i + 1).toNat (by omega) (by omega) (by omega)
      simp [wipe, g1, g2, lt]
theorem cut_to {α : Type} (dn : List α) (rest : List α) : cut (dn ++ rest) none (some (dn.length : Nat)) = dn := by
  unfold cut cutIx
  have h : ¬ ((dn.length : Nat) : Int) < 0 := by omega
  simp [h]
def Done (S' : Sto) (X : X) : Prop := ∃ ρ', X = .nx ρ' S'
theorem kind_init_ok (H : Hs T x [n_is_integer, n_is_from, n_is_rising, n_Kind___init__]) (V : Env T x) {m : Nat} {ls : List (List Int)} (h : Lots m ls) :
    callN T (n + 4) (x.f n_Kind___init__) [.r S.length, .d (.int m), .d (.tup (ls.map Lo))] (S ++ [.inst (x.c c_Kind) []]) = .ok (.d .non) (S ++ [.inst (x.c c_Kind) [.int m, .tup ((sortL ls).map Lo)]]) := by
  have h1 := h.hm
  have h5 := h.hm5
  have hlen := h.len
  rw [call_def (H.at (by simp)) rfl]
  unfold runF
  rw [if_pos (by rfl)]
  obtain ⟨ρ', e'⟩ : ∃ ρ', exs (T.g (callN T (n + 3))) (d_Kind___init__ x).body (List.map some [.r S.length, .d (.int m), .d (.tup (ls.map Lo))] ++ List.replicate ((d_Kind___init__ x).nn - (d_Kind___init__ x).np) none) (S ++ [.inst (x.c c_Kind) []]) = .nx ρ' (S ++ [.inst (x.c c_Kind) [.int m, .tup ((sortL ls).map Lo)]]) := by
    show Done _ (exs _ (b_Kind___init__ x) [some (.r S.length), some (.d (.int m)), some (.d (.tup (ls.map Lo))), none, none] _)
    unfold b_Kind___init__
    have hfrom := is_from_ok (T := T) (x := x) (n := n + 1) (S := S ++ [.inst (x.c c_Kind) []]) (lo := 1) (hi := 5) (v := .int m) (H.sub (by simp)) rfl
    have hfrom' : callN T (n + 3) (x.f n_is_from) [.d (.int m), .d (.int 1), .d (.int 5)] (S ++ [.inst (x.c c_Kind) []]) = .ok (.d (.bl true)) (S ++ [.inst (x.c c_Kind) []]) := by
      rw [isFrom_i (by omega) (by omega)] at hfrom
      exact hfrom
    refine exs_ifr (Q := Done (S ++ [.inst (x.c c_Kind) [.int m, .tup ((sortL ls).map Lo)]])) (b := false) ?_ (fun h => by cases h) fun _ => ?_
    · simp [V.most, hfrom']
    refine exs_ifr (Q := Done (S ++ [.inst (x.c c_Kind) [.int m, .tup ((sortL ls).map Lo)]])) (b := false) ?_ (fun h => by cases h) fun _ => ?_
    · simp [isTF, objOk, isTy]
    refine exs_enum (Q := Done (S ++ [.inst (x.c c_Kind) [.int m, .tup ((sortL ls).map Lo)]])) (fun dn ρ S' => S' = S ++ [.inst (x.c c_Kind) []] ∧ ∃ a b, ρ = [some (.r S.length), some (.d (.int m)), some (.d (.tup (ls.map Lo))), a, b]) ls Lo ?_ ⟨rfl, none, none, rfl⟩ ?_ ?_
    · simp
    · rintro dn l rest ρ S' e ⟨rfl, a, b, rfl⟩
      have hin : l ∉ dn := by
        have := h.nd
        rw [e, List.nodup_append] at this
        exact fun q => this.2.2 l q l List.mem_cons_self rfl
      have hr := rising_lot (T := T) (x := x) (n := n) (S := S ++ [.inst (x.c c_Kind) []]) (H.sub (by simp)) (h.lot l (by rw [e]; simp)) h5
      have hc : cut (ls.map Lo) none (some ((dn.length : Nat) : Int)) = dn.map Lo := by
        rw [e, List.map_append]
        have := cut_to (dn.map Lo) ((l :: rest).map Lo)
        rwa [List.length_map] at this
      refine ⟨_, _, exs_ifr (Q := (· = X.nx _ _)) (b := false) (tst_or' (p := false) (q := false) (tst_not' (p := true) (tst_of ?_)) fun _ => ?_) (fun h => by cases h) fun _ => by rw [exs_nil]; rfl, rfl, some (.d (.int (dn.length : Nat))), some (.d (Lo l)), rfl⟩
      · simp [hr]
      · simp [sliceD, hc, hin]
    · rintro ρ' S' ⟨rfl, a, b, rfl⟩
      have hn : opD .nmem (.tup []) (.tup (ls.map Lo)) = some (.d (.bl false)) := by
        have := nmem_T (a := []) (ls := ls)
        rw [show Lo [] = .tup [] from rfl] at this
        rw [this]
        simp [h.nil]
      refine exs_ifr (Q := Done (S ++ [.inst (x.c c_Kind) [.int m, .tup ((sortL ls).map Lo)]])) (b := false) ?_ (fun h => by cases h) fun _ => ?_
      · simp [hn]
      simp [putF, Done]
  rw [e']
  simp
  exact List.take_of_length_le (by simp)
theorem kind_ok (H : Hs T x [n_is_integer, n_is_from, n_is_rising, n_Kind___init__]) (V : Env T x) {m : Nat} {ls : List (List Int)} (h : Lots m ls) : mkObj (T.g (callN T (n + 4))) (x.c c_Kind) [.d (.int m), .d (.tup (ls.map Lo))] S = .ok (.new (.inst (x.c c_Kind) [.int m, .tup ((sortL ls).map Lo)])) S := by
  unfold mkObj
  rw [show (T.g (callN T (n + 4))).init = T.init from rfl, V.init]
  dsimp only
  rw [show (T.g (callN T (n + 4))).call = callN T (n + 4) from rfl, kind_init_ok H V h]
  simp
end
end PL
set_option linter.all false
set_option Elab.async false
set_option maxRecDepth 100000
set_option maxHeartbeats 1000000
namespace PL
open MI PB
/-! ### the least of some cases -/
section
variable {α β : Type} {lt : α → α → Bool} {lt1 : α → α → Bool} {lt2 : β → β → Bool}
/-- o is the least thing of which P holds -/
def IsMin (lt : α → α → Bool) (P : α → Prop) : Option α → Prop
  | some a => P a ∧ ∀ b, P b → lt b a = false
  | none => ∀ b, ¬ P b
theorem IsMin.uniq (t : Tot lt) {P Q : α → Prop} {o o' : Option α} (h : IsMin lt P o) (h2 : IsMin lt Q o') (e : ∀ a, P a ↔ Q a) : o = o' := by
  cases o with
  | none => cases o' with
    | none => rfl
    | some b => exact (h b ((e b).mpr h2.1)).elim
  | some a => cases o' with
    | none => exact (h2 a ((e a).mp h.1)).elim
    | some b => rw [t.tri a b (h2.2 a ((e a).mp h.1)) (h.2 b ((e b).mpr h2.1))]
theorem IsMin.congr {P Q : α → Prop} {o : Option α} (h : IsMin lt P o) (e : ∀ a, P a ↔ Q a) : IsMin lt Q o := by
  cases o with
  | none => exact fun b hb => h b ((e b).mpr hb)
  | some a => exact ⟨(e a).mp h.1, fun b hb => h.2 b ((e b).mpr hb)⟩
theorem ismin_find (t : Tot lt) {p : α → Bool} {l : List α} (hs : l.Pairwise (fun a b => lt a b = true)) : IsMin lt (fun a => a ∈ l ∧ p a = true) (l.find? p) := by
  cases e : l.find? p with
  | none =>
    intro b hb
    rw [List.find?_eq_none] at e
    exact e b hb.1 hb.2
  | some a =>
    have q := find_least t (hs.imp fun {a b} h => t.asym a b h) e
    refine ⟨List.mem_filter.mp q.1, fun b hb => q.2 b (List.mem_filter.mpr hb)⟩
def lexP (lt1 : α → α → Bool) (lt2 : β → β → Bool) [DecidableEq α] (a b : α × β) : Bool := if a.1 = b.1 then lt2 a.2 b.2 else lt1 a.1 b.1
theorem Tot.lex [DecidableEq α] (t1 : Tot lt1) (t2 : Tot lt2) : Tot (lexP lt1 lt2) := by
  refine ⟨fun a b h => ?_, fun a b h h2 => ?_, fun a b c h h2 => ?_⟩
  · unfold lexP at h ⊢
    by_cases e : a.1 = b.1
    · rw [if_pos e] at h; rw [if_pos e.symm]; exact t2.asym _ _ h
    · rw [if_neg e] at h; rw [if_neg (Ne.symm e)]; exact t1.asym _ _ h
  · unfold lexP at h h2
    by_cases e : a.1 = b.1
    · rw [if_pos e] at h; rw [if_pos e.symm] at h2
      exact Prod.ext e (t2.tri _ _ h h2)
    · rw [if_neg e] at h; rw [if_neg (Ne.symm e)] at h2
      exact (e (t1.tri _ _ h h2)).elim
  · unfold lexP at h h2 ⊢
    by_cases e : a.1 = b.1
    · rw [if_pos e] at h
      by_cases e2 : b.1 = c.1
      · rw [if_pos e2] at h2; rw [if_pos (e.trans e2)]; exact t2.tr _ _ _ h h2
      · rw [if_neg e2] at h2; rw [if_neg (fun q => e2 (e.symm.trans q)), e]; exact h2
    · rw [if_neg e] at h
      by_cases e2 : b.1 = c.1
      · rw [if_pos e2] at h2; rw [if_neg (fun q => e (q.trans e2.symm)), ← e2]; exact h
      · rw [if_neg e2] at h2
        have h3 := t1.tr _ _ _ h h2
        rw [if_neg (fun q => by rw [q, t1.irr] at h3; cases h3)]
        exact h3
/-- nested searches -/
theorem ismin_nest [DecidableEq α] (t1 : Tot lt1) {xs : List α} (hs : xs.Pairwise (fun a b => lt1 a b = true)) {P : α → β → Prop} {f : α → Option β} (h : ∀ a ∈ xs, IsMin lt2 (P a) (f a)) :
    IsMin (lexP lt1 lt2) (fun q => q.1 ∈ xs ∧ P q.1 q.2) (xs.findSome? fun a => (f a).map (Prod.mk a)) := by
  induction xs with
  | nil => exact fun b hb => by simp at hb
  | cons x xs ih =>
    obtain ⟨h1, h2⟩ := List.pairwise_cons.mp hs
    have ih := ih h2 fun a ha => h a (List.mem_cons_of_mem _ ha)
    have hx := h x List.mem_cons_self
    rw [List.findSome?_cons]
    cases e : f x with
    | some b =>
      rw [e] at hx
      refine ⟨⟨List.mem_cons_self, hx.1⟩, fun q hq => ?_⟩
      unfold lexP
      dsimp only
      by_cases e2 : q.1 = x
      · rw [if_pos e2]
        exact hx.2 _ (e2 ▸ hq.2)
      · rw [if_neg e2]
        rcases List.mem_cons.mp hq.1 with z | z
        · exact (e2 z).elim
        · exact t1.asym _ _ (h1 _ z)
    | none =>
      rw [e] at hx
      refine ih.congr fun q => ⟨fun z => ⟨List.mem_cons_of_mem _ z.1, z.2⟩, fun z => ?_⟩
      rcases List.mem_cons.mp z.1 with e2 | e2
      · exact (hx q.2 (e2 ▸ z.2)).elim
      · exact ⟨e2, z.2⟩
/-- min of a list -/
def minL (lt : α → α → Bool) : α → List α → α
  | m, [] => m
  | m, x :: xs => minL lt (if lt x m then x else m) xs
def minO (lt : α → α → Bool) : List α → Option α
  | [] => none
  | x :: xs => some (minL lt x xs)
theorem minL_ok (t : Tot lt) : ∀ (xs : List α) (m : α), minL lt m xs ∈ m :: xs ∧ ∀ b ∈ m :: xs, lt b (minL lt m xs) = false
  | [], m => ⟨List.mem_cons_self, fun b hb => by
      rw [List.mem_singleton] at hb; subst hb; exact t.irr b⟩
  | x :: xs, m => by
    unfold minL
    obtain ⟨h1, h2⟩ := minL_ok t xs (if lt x m then x else m)
    generalize hz : minL lt (if lt x m then x else m) xs = z at h1 h2
    cases e : lt x m with
    | true =>
      rw [e, if_pos rfl] at h1 h2
      refine ⟨List.mem_cons_of_mem _ h1, fun b hb => ?_⟩
      rcases List.mem_cons.mp hb with rfl | hb
      · exact t.le_tr (h2 x List.mem_cons_self) (t.asym _ _ e)
      · exact h2 b hb
    | false =>
      rw [e, if_neg (by simp)] at h1 h2
      refine ⟨?_, fun b hb => ?_⟩
      · rcases List.mem_cons.mp h1 with q | q
        · rw [q]; exact List.mem_cons_self
        · exact List.mem_cons_of_mem _ (List.mem_cons_of_mem _ q)
      · rcases List.mem_cons.mp hb with rfl | hb
        · exact h2 b List.mem_cons_self
        · rcases List.mem_cons.mp hb with rfl | hb
          · exact t.le_tr (h2 m List.mem_cons_self) e
          · exact h2 b (List.mem_cons_of_mem _ hb)
theorem minO_ok (t : Tot lt) (l : List α) : IsMin lt (· ∈ l) (minO lt l) := by
  cases l with
  | nil => exact fun b hb => by simp at hb
  | cons x xs => exact minL_ok t xs x
/-- a way to write things as ordered data -/
structure Emb (c : α → D) (lt : α → α → Bool) : Prop where
  ord : ∀ a, (c a).ord 20 = true
  cmp : ∀ a b, (c a).cmp (c b) = true
  lt : ∀ a b, (c a).lt (c b) = lt a b
  plain : ∀ a, (c a).plain 59 = true
theorem Emb.min {c : α → D} (h : Emb c lt) : ∀ (xs : List α) (m : α), minD (c m) (xs.map c) = c (minL lt m xs)
  | [], m => rfl
  | x :: xs, m => by
    rw [List.map_cons, minD, minL, h.lt]
    rw [← h.min xs]
    split <;> rfl
theorem Emb.comparable {c : α → D} (h : Emb c lt) (xs : List α) : comparable (xs.map c) = true := comparable_of' (fun a ha => by
  obtain ⟨i, _, rfl⟩ := List.mem_map.mp ha; exact h.ord i) fun a ha b hb => by
  obtain ⟨i, _, rfl⟩ := List.mem_map.mp ha
  obtain ⟨j, _, rfl⟩ := List.mem_map.mp hb
  exact h.cmp i j
theorem Emb.plains {c : α → D} (h : Emb c lt) (xs : List α) : D.plains (xs.map c) 59 = true := by
  induction xs with
  | nil => rfl
  | cons a xs ih => rw [List.map_cons, D.plains, ih, h.plain]; rfl
end
theorem beqs_ints : ∀ a b : List Int, D.beqs (a.map .int) (b.map .int) = decide (a = b)
  | [], [] => rfl
  | [], _ :: _ => rfl
  | _ :: _, [] => rfl
  | x :: a, y :: b => by
    rw [List.map_cons, List.map_cons, D.beqs, beqs_ints a b]
    show (x == y && decide (a = b)) = _
    by_cases h : x = y <;> by_cases h2 : a = b <;> simp [h, h2]
theorem beq_Lo (a b : List Int) : (Lo a).beq (Lo b) = decide (a = b) := by
  unfold Lo D.beq
  exact beqs_ints a b
theorem embL : Emb Lo ltL := ⟨fun a => ord_Lo a 19, cmp_Lo, lt_Lo, fun a => plain_Lo a 58⟩
def P2 (q : List Int × List Int) : D := .tup [Lo q.1, Lo q.2]
def lt2 : List Int × List Int → List Int × List Int → Bool := lexP ltL ltL
theorem tot2 : Tot lt2 := totL.lex totL
theorem emb2 : Emb P2 lt2 := by
  refine ⟨fun a => ?_, fun a b => ?_, fun a b => ?_, fun a => ?_⟩
  · simp [P2, D.ord, D.ords, ord_Lo]
  · simp [P2, D.cmp, D.cmps, cmp_Lo]
  · simp only [P2, D.lt, D.lts, beq_Lo, lt_Lo, lt2, lexP, decide_eq_true_eq]
    by_cases e : a.1 = b.1
    · rw [if_pos e, if_pos e]
      by_cases e2 : a.2 = b.2
      · rw [if_pos e2, e2, ltL_irr]
      · rw [if_neg e2]
    · rw [if_neg e, if_neg e]
  · simp [P2, D.plain, D.plains, plain_Lo]
def P4 (q : List Int × Int × Int × List Int) : D := .tup [Lo q.1, .int q.2.1, .int q.2.2.1, Lo q.2.2.2]
def lt4 : List Int × Int × Int × List Int → List Int × Int × Int × List Int → Bool := lexP ltL (lexP ltI (lexP ltI ltL))
theorem tot4 : Tot lt4 := totL.lex (totI.lex (totI.lex totL))
theorem emb4 : Emb P4 lt4 := by
  refine ⟨fun a => ?_, fun a b => ?_, fun a b => ?_, fun a => ?_⟩
  · simp [P4, D.ord, D.ords, ord_Lo]
  · simp [P4, D.cmp, D.cmps, cmp_Lo]
  · simp only [P4, D.lt, D.lts, D.beq, beq_Lo, lt_Lo, lt4, lexP, decide_eq_true_eq, beq_iff_eq, ltI]
    by_cases e : a.1 = b.1
    · rw [if_pos e, if_pos e]
      by_cases e2 : a.2.1 = b.2.1
      · rw [if_pos e2, if_pos e2]
        by_cases e3 : a.2.2.1 = b.2.2.1
        · rw [if_pos e3, if_pos e3]
          by_cases e4 : a.2.2.2 = b.2.2.2
          · rw [if_pos e4, e4, ltL_irr]
          · rw [if_neg e4]
        · rw [if_neg e3, if_neg e3]
      · rw [if_neg e2, if_neg e2]
    · rw [if_neg e, if_neg e]
  · simp [P4, D.plain, D.plains, plain_Lo]
section
variable {T : Txt} {x : Ix} {n : Nat} {S : Sto} {α : Type} {lt : α → α → Bool}
theorem first_ok (H : Hs T x [n_l_first]) {c : α → D} (h : Emb c lt) (L : List α) : callN T (n + 1) (x.f n_l_first) [.d (.lst (L.map c))] S = .ok (.d (optD ((minO lt L).map c))) S := by
  rw [call_def (H.at (by simp)) rfl]
  refine run_d rfl ?_
  show exs _ (b_l_first x) [some (.d (.lst (L.map c)))] S = _
  have hne := ne_nil (h.plains L)
  cases L with
  | nil =>
    simp [b_l_first, minO, optD]
    rw [show opD .ne (.lst []) (.lst []) = some (.d (.bl false)) from hne]
    simp
  | cons a L =>
    have hm : minF [.lst ((a :: L).map c)] = some (.d (c (minL lt a L))) := by
      show (if comparable (c a :: L.map c) then some (RV.d (minD (c a) (L.map c))) else none) = _
      rw [show c a :: L.map c = (a :: L).map c from rfl, h.comparable, if_pos rfl, h.min]
    simp [b_l_first, minO, optD, -List.map_cons, hne, hm]
end
end PL
set_option linter.all false
set_option Elab.async false
set_option maxRecDepth 100000
set_option maxHeartbeats 1000000
namespace PL
open MI PB
/-! ### the law's own looks -/
theorem Lots.kok {m : Nat} {ls : List (List Int)} (h : Lots m ls) : KOk m (sortL ls) := ⟨h.hm5, fun l hl => h.lot l ((sortA_spec totL ls).2.mem_iff.mp hl), by
  have := (sortA_spec totL ls).2.length_eq
  have := h.len
  unfold sortL
  omega⟩
theorem mem_sortL {ls : List (List Int)} {l : List Int} : l ∈ sortL ls ↔ l ∈ ls := (sortA_spec totL ls).2.mem_iff
theorem len_sortL {ls : List (List Int)} : (sortL ls).length = ls.length := (sortA_spec totL ls).2.length_eq
theorem Lots.small {m : Nat} {ls : List (List Int)} (h : Lots m ls) {l : List Int} (hl : l ∈ ls) : l.length ≤ 5 := by
  have := (h.lot l hl).len
  have := h.hm5
  omega
theorem added_eq {m : Nat} {ls : List (List Int)} {l : List Int} (hl : l.Nodup) : ((rI m).filter fun t => !decide (t ∈ l) && decide (withS l t ∈ ls)) = addedL m (sortL ls) l := by
  unfold addedL
  refine List.filter_congr fun t ht => ?_
  by_cases h : t ∈ l
  · simp [h]
  · rw [withS_eq hl h]
    simp [h, mem_sortL]
theorem within_eq {ls : List (List Int)} {s : List Int} : withinB ls s = withinB (sortL ls) s := by
  unfold withinB
  rw [Bool.eq_iff_iff, List.any_eq_true, List.any_eq_true]
  exact ⟨fun ⟨a, h1, h2⟩ => ⟨a, mem_sortL.mpr h1, h2⟩, fun ⟨a, h1, h2⟩ => ⟨a, mem_sortL.mp h1, h2⟩⟩
theorem within_congr {ls : List (List Int)} {s t : List Int} (h : ∀ i, i ∈ s ↔ i ∈ t) : withinB ls s = withinB ls t := by
  unfold withinB partB
  congr 1
  funext l
  rw [Bool.eq_iff_iff, List.all_eq_true, List.all_eq_true]
  exact ⟨fun q i hi => q i ((h i).mpr hi), fun q i hi => q i ((h i).mp hi)⟩
section
variable {T : Txt} {x : Ix} {n : Nat} {S : Sto} {g : G} {ρ : Rho}
theorem eq_nilF {xs : List Int} : opD .eq (.lst (xs.map .int)) (.lst []) = some (.d (.bl xs.isEmpty)) := eq_nilI
theorem op_nn {o : Op} {xs ys : List D} : opR g o (.d (.lst xs)) (.d (.lst ys)) S = R.of (opD o (.lst xs) (.lst ys)) S := rfl
theorem l_added_ok (H : Hs T x [n_l_with, n_l_added]) {m : Nat} (hm : m ≤ 5) {ls : List (List Int)} {l : List Int} (hl : l.Nodup) (h60 : l.length ≤ 60) : callN T (n + 2) (x.f n_l_added) [.d (.int m), .d (.tup (ls.map Lo)), .d (Lo l)] S = .ok (.new (.lst ((addedL m (sortL ls) l).map .int))) S := by
  rw [call_def (H.at (by simp)) rfl]
  refine run_new rfl ?_
  show exs _ (b_l_added x) [some (.d (.int m)), some (.d (.tup (ls.map Lo))), some (.d (Lo l)), none] S = _
  refine exs_ret ?_
  rw [← added_eq hl]
  refine ev_compM (rI m) D.int (fun t => !decide (t ∈ l) && decide (withS l t ∈ ls)) D.int (evI_rI (by simp) (by omega)) (by rw [rI_len]; exact lt_lim (by omega)) fun t ht => ⟨_, rfl, fun S' => ⟨?_, fun _ => by simp [wipe]⟩⟩
  rw [evO_yes]
  exact tst_and' (by simp [wipe]) fun _ => by simp [wipe, l_with_ok (H.sub (by simp)) h60]
theorem l_full_ok (H : Hs T x [n_l_with, n_l_added, n_l_full]) {m : Nat} {ls : List (List Int)} (h : Lots m ls) : callN T (n + 3) (x.f n_l_full) [.d (.int m), .d (.tup (ls.map Lo))] S = .ok (.new (.lst ((fullL m (sortL ls)).map Lo))) S := by
  rw [call_def (H.at (by simp)) rfl]
  refine run_new rfl ?_
  show exs _ (b_l_full x) [some (.d (.int m)), some (.d (.tup (ls.map Lo))), none] S = _
  refine exs_ret ?_
  refine ev_compM (sortL ls) Lo (fun l => (addedL m (sortL ls) l).isEmpty) Lo (by simp) (lt_lim (by have := h.len; rw [len_sortL]; omega)) fun l hl => ⟨_, rfl, fun S' => ⟨?_, fun _ => by simp [wipe]⟩⟩
  have hL := h.lot l (mem_sortL.mp hl)
  simp [wipe, l_added_ok (H.sub (by simp)) h.hm5 hL.nodup (by have := h.small (mem_sortL.mp hl); omega)]
theorem isEmpty_filter_not {α : Type} {p : α → Bool} {l : List α} : (l.filter fun a => !p a).isEmpty = l.all p := by
  induction l with
  | nil => rfl
  | cons a l ih =>
    rw [List.filter_cons, List.all_cons]
    cases h : p a <;> simp [← ih]
theorem l_within_ok (H : Hs T x [n_l_within]) {ls : List (List Int)} {s : List Int} (hl : ls.length ≤ 1000) (hs : s.length ≤ 1000) : callN T (n + 1) (x.f n_l_within) [.d (.tup (ls.map Lo)), .d (Lo s)] S = .ok (.d (.bl (withinB (sortL ls) s))) S := by
  rw [call_def (H.at (by simp)) rfl]
  refine run_d rfl ?_
  refine exs_ret ?_
  have hc := ev_compM (g := T.g (callN T n)) (ρ := [some (.d (.tup (ls.map Lo))), some (.d (Lo s)), none, none]) (S := S) (elt := .var 2) (tg := .one 2) (it := .e (.var 0)) (ifs := .yes (.op .eq (.comp (.var 3) (.one 3) (.e (.var 1)) (.yes (.op .nmem (.var 3) (.var 2))) [3]) (.lst .nil))) (own := [2]) ls Lo (fun l => partB s l) Lo (by simp) (lt_lim (by omega)) fun l hl => ⟨_, rfl, fun S' => ⟨?_, fun _ => by simp [wipe]⟩⟩
  · refine ev_op' (v := .new (.lst ((ls.filter fun l => partB s l).map Lo))) hc rfl (w := .new (.lst [])) (by simp) ?_
    rw [op_ln, ne_nilL, of_some]
    rw [← within_eq]
    unfold withinB
    congr 3
    rw [Bool.eq_iff_iff]
    simp [List.isEmpty_iff]
  · rw [evO_yes]
    refine tst_of (ev_op' (v := .new (.lst ((s.filter fun i => !decide (i ∈ l)).map .int))) (ev_compM s D.int (fun i => !decide (i ∈ l)) D.int (by simp [wipe]) (lt_lim (by omega)) fun i hi => ⟨_, rfl, fun S' => ⟨by simp [wipe], fun _ => by simp [wipe]⟩⟩) rfl (w := .new (.lst [])) (by simp) ?_)
    rw [op_ln, eq_nilI, of_some, isEmpty_filter_not]
    rfl
end
end PL
set_option linter.all false
set_option Elab.async false
set_option maxRecDepth 100000
set_option maxHeartbeats 1000000
namespace PL
open MI PB
section
variable {T : Txt} {x : Ix} {n : Nat} {S : Sto} {g : G} {ρ : Rho} {α : Type}
/-- the def's own cell comes out -/
theorem run_own {fd : Fd} {vs : List RV} {xs : List D} (hl : vs.length = fd.np) (h : exs g fd.body (vs.map some ++ List.replicate (fd.nn - fd.np) none) S = .ret (.r S.length) (S ++ [.lst xs])) : runF g fd vs S = .ok (.new (.lst xs)) S := by
  unfold runF
  rw [if_pos hl, h]
  simp [fin]
theorem exs_loop1 {i : Nat} {it : MI.I} {b : Ss} (P : List α → Rho → Sto → Prop) (xs : List α) (c : α → D) (h : evI g it ρ S = .ok ⟨xs.map c, none⟩ S) (hP : P [] ρ S)
    (st : ∀ (dn : List α) (a : α) (rest : List α) (ρ : Rho) (S : Sto), xs = dn ++ a :: rest → P dn ρ S → ∃ ρ' S', exs g b (ρ.set i (some (.d (c a)))) S = .nx ρ' S' ∧ P (dn ++ [a]) ρ' S') : ∃ ρ' S', exs g (.cons (.for_ (.one i) it b) .nil) ρ S = .nx ρ' S' ∧ P xs ρ' S' := by
  obtain ⟨ρ', S', h1, h2⟩ := ex_loop P xs c h hP st
  exact ⟨ρ', S', by rw [exs_cons, h1]; exact exs_nil, h2⟩
/-- if ..: found.append(..) -/
theorem exs_ifapp {c e : E} {b : Bool} {i : Nat} {xs : List D} {d : D} (hi : ρ[i]? = some (some (.r S.length))) (hl : xs.length ≤ 90000) (hc : tst (ev g c ρ (S ++ [.lst xs])) = .ok b (S ++ [.lst xs])) (he : ∃ v, ev g e ρ (S ++ [.lst xs]) = .ok v (S ++ [.lst xs]) ∧ v.data = some d) :
    exs g (.cons (.ite c (.cons (.ex (.app (.var i) e)) .nil) .nil) .nil) ρ (S ++ [.lst xs]) = .nx ρ (S ++ [.lst (if b then xs ++ [d] else xs)]) := by
  rw [exs_cons, ex_ite, hc, then_ok]
  cases b with
  | false => simp
  | true =>
    obtain ⟨v, h1, h2⟩ := he
    have hget : (S ++ [Cell.lst xs])[S.length]? = some (.lst xs) := by simp
    have hap : appC (S ++ [.lst xs]) S.length [d] = .ok (.d .non) (S ++ [.lst (xs ++ [d])]) := by
      unfold appC
      rw [hget]
      simp only [List.length_cons, List.length_nil]
      rw [if_pos (le_lim (by omega))]
      simp
    simp only [if_true, exs_cons, ex_ex, ev_app, ev_var, hi, bind_ok, isL_of hget, h1, h2, of_some, hap, then_ok, exs_nil]
theorem l_steps_ok (H : Hs T x [n_l_steps]) {m : Nat} {ls : List (List Int)} (h : Lots m ls) : callN T (n + 1) (x.f n_l_steps) [.d (.tup (ls.map Lo))] S = .ok (.new (.lst ((ls.filter (stepB (sortL ls))).map Lo))) S := by
  have hlen := h.len
  rw [call_def (H.at (by simp)) rfl]
  refine run_own rfl ?_
  show exs _ (b_l_steps x) [some (.d (.tup (ls.map Lo))), none, none, none, none, none] S = _
  refine exs_step (Q := (· = _)) (ρ1 := [some (.d (.tup (ls.map Lo))), some (.r S.length), none, none, none, none]) (S1 := S ++ [.lst []]) (by simp) ?_
  refine exs_loop (Q := (· = _)) (fun dn ρ S' => S' = S ++ [.lst ((dn.filter (stepB (sortL ls))).map Lo)] ∧ ∃ a b c d, ρ = [some (.d (.tup (ls.map Lo))), some (.r S.length), a, b, c, d]) ls Lo (by simp) ⟨by simp, _, _, _, _, rfl⟩ ?_ ?_
  · rintro dn l rest ρ S' e ⟨rfl, a, b, c, d, rfl⟩
    have hl5 := h.small (show l ∈ ls by rw [e]; simp)
    have hdl : (dn.filter (stepB (sortL ls))).length ≤ 64 := Nat.le_trans (List.length_filter_le _ _) (by rw [e] at hlen; simp at hlen; omega)
    have hb : stepB (sortL ls) l = (!l.isEmpty && ((l.map (withoutT l)).filter fun s => decide (s ∈ ls)).isEmpty) := by
      unfold stepB
      congr 1
      rw [Bool.eq_iff_iff]
      simp [List.isEmpty_iff, mem_sortL]
    refine ⟨_, _, set_lst (Q := (· = X.nx _ _)) (xs := (l.map (withoutT l)).map Lo) ?_ (exs_ifapp (b := stepB (sortL ls) l) (d := Lo l) (by simp) (by simp; omega) ?_ ⟨.d (Lo l), by simp, rfl⟩), ?_, some (.d (Lo l)), _, c, d, rfl⟩
    · rw [ev_compM l D.int (fun _ => true) (fun t => Lo (withoutT l t)) (by simp) (lt_lim (by omega)) fun t ht => ⟨_, rfl, fun S'' => ⟨evO_no, fun _ => ⟨.d (Lo (withoutT l t)), ev_tuple1 (ev_compM l D.int (fun i => !(i == t)) D.int (by simp [wipe]) (lt_lim (by omega)) fun i hi => ⟨_, rfl, fun S'' => ⟨by simp [wipe], fun _ => by simp [wipe]⟩⟩), rfl⟩⟩⟩]
      rw [List.filter_eq_self.mpr (fun _ _ => rfl), List.map_map]
      rfl
    · rw [hb]
      refine tst_and' (by simp) fun _ => tst_of (ev_op' (v := .new (.lst (((l.map (withoutT l)).filter fun s => decide (s ∈ ls)).map Lo))) (ev_compM (l.map (withoutT l)) Lo (fun s => decide (s ∈ ls)) Lo (by simp) (lt_lim (by simp; omega)) fun s hs => ⟨_, rfl, fun S'' => ⟨by simp [wipe], fun _ => by simp [wipe]⟩⟩) rfl (w := .new (.lst [])) (by simp) ?_)
      rw [op_ln, eq_nilL, of_some]
    · rw [List.filter_append, List.filter_cons, List.filter_nil]
      cases stepB (sortL ls) l <;> simp
  · rintro ρ' S' ⟨rfl, a, b, c, d, rfl⟩
    simp
def extB (told : List (List Int)) (m : Nat) (l o : List Int) : Bool := !decide (l = o) && (partB l o && !((addedL m told l).any fun t => decide (t ∈ o)))
theorem isEmpty_filter {p : α → Bool} {l : List α} : (l.filter p).isEmpty = !l.any p := by
  induction l with
  | nil => rfl
  | cons a l ih =>
    rw [List.filter_cons, List.any_cons]
    cases h : p a <;> simp [ih]
def extsL (m : Nat) (ls : List (List Int)) (l : List Int) : List (List Int × List Int) := ((fullL m (sortL ls)).filter (extB (sortL ls) m l)).map (Prod.mk l)
theorem flat_len {β : Type} {f : α → List β} {k : Nat} : ∀ {l : List α}, (∀ a ∈ l, (f a).length ≤ k) → (l.flatMap f).length ≤ l.length * k
  | [], _ => by simp
  | a :: l, h => by
    rw [List.flatMap_cons, List.length_append, List.length_cons, Nat.succ_mul]
    have := h a List.mem_cons_self
    have := flat_len (l := l) fun b hb => h b (List.mem_cons_of_mem _ hb)
    omega
theorem l_extends_ok (H : Hs T x [n_l_with, n_l_added, n_l_full, n_l_extends]) {m : Nat} {ls : List (List Int)} (h : Lots m ls) : callN T (n + 4) (x.f n_l_extends) [.d (.int m), .d (.tup (ls.map Lo))] S = .ok (.new (.lst ((ls.flatMap (extsL m ls)).map P2))) S := by
  have hlen := h.len
  have hfl : (fullL m (sortL ls)).length ≤ 64 := Nat.le_trans full_len (by rw [len_sortL]; exact hlen)
  have hone : ∀ l, (extsL m ls l).length ≤ 64 := fun l => by
    unfold extsL
    rw [List.length_map]
    exact Nat.le_trans (List.length_filter_le _ _) hfl
  rw [call_def (H.at (by simp)) rfl]
  refine run_own rfl ?_
  show exs _ (b_l_extends x) [some (.d (.int m)), some (.d (.tup (ls.map Lo))), none, none, none, none, none, none] S = _
  refine exs_step (Q := (· = _)) (ρ1 := [some (.d (.int m)), some (.d (.tup (ls.map Lo))), some (.r S.length), none, none, none, none, none]) (S1 := S ++ [.lst []]) (by simp) ?_
  refine exs_loop (Q := (· = _)) (fun dn ρ S' => S' = S ++ [.lst ((dn.flatMap (extsL m ls)).map P2)] ∧ ∃ a b c d e, ρ = [some (.d (.int m)), some (.d (.tup (ls.map Lo))), some (.r S.length), a, b, c, d, e]) ls Lo (by simp) ⟨by simp, _, _, _, _, _, rfl⟩ ?_ ?_
  · rintro dn l rest ρ S' e ⟨rfl, a, b, c, d, f, rfl⟩
    have hlm : l ∈ ls := by rw [e]; simp
    have hl5 := h.small hlm
    have hnd := (h.lot l hlm).nodup
    have hdn : (dn.flatMap (extsL m ls)).length ≤ 4096 := Nat.le_trans (flat_len fun a _ => hone a) (by
      rw [e] at hlen; simp at hlen; omega)
    obtain ⟨ρ', S', q1, q2, a', b', c', d', f', rfl⟩ := exs_loop1 (g := T.g (callN T (n + 3))) (S := S ++ [.lst ((dn.flatMap (extsL m ls)).map P2)]) (ρ := [some (.d (.int m)), some (.d (.tup (ls.map Lo))), some (.r S.length), some (.d (Lo l)), b, c, d, f]) (i := 4) (it := .e (.call (x.f n_l_full) (.cons false (.var 0) (.cons false (.var 1) .nil))))
      (b := (.cons (.set 5 false (.comp (.var 6) (.one 6) (.e (.call (x.f n_l_added) (.cons false (.var 0) (.cons false (.var 1) (.cons false (.var 3) .nil))))) (.yes (.op .mem (.var 6) (.var 4))) [6]))
 (.cons (.ite (.and (.op .ne (.var 3) (.var 4)) (.and (.op .eq (.comp (.var 7) (.one 7) (.e (.var 3)) (.yes (.op .nmem (.var 7) (.var 4))) [7]) (.lst .nil)) (.op .eq (.var 5) (.lst .nil)))) (.cons (.ex (.app (.var 2) (.tup (.cons false (.var 3) (.cons false (.var 4) .nil)))))
 .nil) .nil)
 .nil))) (fun dn2 ρ S' => S' = S ++ [.lst ((dn.flatMap (extsL m ls) ++ (dn2.filter (extB (sortL ls) m l)).map (Prod.mk l)).map P2)] ∧ ∃ a b c d e, ρ = [some (.d (.int m)), some (.d (.tup (ls.map Lo))), some (.r S.length), some (.d (Lo l)), b, c, d, e]) (fullL m (sortL ls)) Lo (ev_src (by simp [l_full_ok (H.sub (by simp)) h])) ⟨by simp, a, b, c, d, f, rfl⟩ (by
      rintro dn2 o rest2 ρ S' e2 ⟨rfl, _, b, c, d, f, rfl⟩
      have hd2 : (dn2.filter (extB (sortL ls) m l)).length ≤ 64 := Nat.le_trans (List.length_filter_le _ _) (by rw [e2] at hfl; simp at hfl; omega)
      refine ⟨_, _, set_lst (Q := (· = X.nx _ _)) (xs := ((addedL m (sortL ls) l).filter fun t => decide (t ∈ o)).map .int) (ev_compM (addedL m (sortL ls) l) D.int (fun t => decide (t ∈ o)) D.int (ev_src (by simp [l_added_ok (H.sub (by simp)) h.hm5 hnd (show l.length ≤ 60 by omega)])) (lt_lim (by have := added_len (m := m) (told := sortL ls) (l := l); have := h.hm5; omega)) fun t ht => ⟨_, rfl, fun S'' => ⟨by simp [wipe], fun _ => by simp [wipe]⟩⟩) (exs_ifapp (b := extB (sortL ls) m l o) (d := P2 (l, o)) (by simp) (by simp; simp at hdn; omega) ?_ ⟨.d (P2 (l, o)), by simp; rfl, rfl⟩), ?_, a, some (.d (Lo o)), _, d, f, rfl⟩
      · have hb : extB (sortL ls) m l o = (!decide (l = o) && ((l.filter fun i => !decide (i ∈ o)).isEmpty && ((addedL m (sortL ls) l).filter fun t => decide (t ∈ o)).isEmpty)) := by
          unfold extB
          rw [isEmpty_filter_not, isEmpty_filter]
          rfl
        rw [hb]
        refine tst_and' (by simp) fun _ => tst_and' (tst_of (ev_op' (v := .new (.lst ((l.filter fun i => !decide (i ∈ o)).map .int))) (ev_compM l D.int (fun i => !decide (i ∈ o)) D.int (by simp) (lt_lim (by omega)) fun i hi => ⟨_, rfl, fun S'' => ⟨by simp [wipe], fun _ => by simp [wipe]⟩⟩) rfl (w := .new (.lst [])) (by simp) (by rw [op_ln, eq_nilI, of_some]))) fun _ => tst_of (ev_op' (v := .d (.lst (((addedL m (sortL ls) l).filter fun t => decide (t ∈ o)).map .int))) (by simp) rfl (w := .new (.lst [])) (by simp) (by rw [op_ln, eq_nilI, of_some]))
      · rw [List.filter_append, List.filter_cons, List.filter_nil]
        cases extB (sortL ls) m l o <;> simp)
    refine ⟨_, _, q1, ?_, _, _, _, _, _, rfl⟩
    rw [q2]
    simp [extsL]
  · rintro ρ' S' ⟨rfl, a, b, c, d, e, rfl⟩
    simp
end
end PL
set_option linter.all false
set_option Elab.async false
set_option maxRecDepth 100000
set_option maxHeartbeats 1000000
namespace PL
open MI PB
section
variable {T : Txt} {x : Ix} {n : Nat} {S : Sto} {g : G} {ρ : Rho} {α : Type}
theorem set_lstG {i : Nat} {e : E} {r : Ss} {xs : List D} {P : Rho → Sto → Prop} (h : ev g e ρ S = .ok (.new (.lst xs)) S) (k : ∃ ρ' S', exs g r (ρ.set i (some (.d (.lst xs)))) S = .nx ρ' S' ∧ P ρ' S') : ∃ ρ' S', exs g (.cons (.set i false e) r) ρ S = .nx ρ' S' ∧ P ρ' S' := by
  rw [exs_cons, ex_set, h]; exact k
theorem exs_loopG {i : Nat} {it : MI.I} {b : Ss} {P' : Rho → Sto → Prop} (P : List α → Rho → Sto → Prop) (xs : List α) (c : α → D) (h : evI g it ρ S = .ok ⟨xs.map c, none⟩ S) (hP : P [] ρ S)
    (st : ∀ (dn : List α) (a : α) (rest : List α) (ρ : Rho) (S : Sto), xs = dn ++ a :: rest → P dn ρ S → ∃ ρ' S', exs g b (ρ.set i (some (.d (c a)))) S = .nx ρ' S' ∧ P (dn ++ [a]) ρ' S') (w : ∀ ρ S, P xs ρ S → P' ρ S) : ∃ ρ' S', exs g (.cons (.for_ (.one i) it b) .nil) ρ S = .nx ρ' S' ∧ P' ρ' S' := by
  obtain ⟨ρ', S', h1, h2⟩ := exs_loop1 P xs c h hP st
  exact ⟨ρ', S', h1, w _ _ h2⟩
theorem ex_parBL {i j : Nat} {a b : E} {c : Cell} {ys : List D} (ha : ev g a ρ S = .ok (.new c) S) (hb : ev g b ρ (S ++ [c]) = .ok (.new (.lst ys)) (S ++ [c])) : ex g (.par i true j false a b) ρ S = .nx ((ρ.set i (some (.r S.length))).set j (some (.d (.lst ys)))) (S ++ [c]) := by
  rw [ex_par, ha, then_ok, set_box]
  dsimp only
  rw [hb, then_ok, set_new]
def goodL (m : Nat) (told : List (List Int)) (l r : List Int) : List Int := (addedL m told l).filter fun t => withinB told (l ++ r ++ [t])
def ag1 (m : Nat) (told : List (List Int)) (l r : List Int) (one : Int) : List (List Int × Int × Int × List Int) := ((addedL m told l).filter fun o => !decide (o ∈ goodL m told l r)).map fun other => (l, one, other, r)
def ag2 (m : Nat) (told : List (List Int)) (l r : List Int) : List (List Int × Int × Int × List Int) := (goodL m told l r).flatMap (ag1 m told l r)
def ag3 (m : Nat) (told : List (List Int)) (l : List Int) : List (List Int × Int × Int × List Int) := (partsL (restL m told l)).flatMap (ag2 m told l)
section
variable {m : Nat} {told : List (List Int)} {l r : List Int}
theorem good_len : (goodL m told l r).length ≤ m := Nat.le_trans (List.length_filter_le _ _) added_len
theorem ag1_len (hm : m ≤ 5) {one : Int} : (ag1 m told l r one).length ≤ 5 := by
  unfold ag1
  rw [List.length_map]
  have := List.length_filter_le (fun o => !decide (o ∈ goodL m told l r)) (addedL m told l)
  have := added_len (m := m) (told := told) (l := l)
  omega
theorem ag2_len (hm : m ≤ 5) : (ag2 m told l r).length ≤ 25 := by
  have := flat_len (l := goodL m told l r) (f := ag1 m told l r) fun a _ => ag1_len hm
  have := good_len (m := m) (told := told) (l := l) (r := r)
  unfold ag2
  omega
theorem ag3_len (hm : m ≤ 5) : (ag3 m told l).length ≤ 800 := by
  have := flat_len (l := partsL (restL m told l)) (f := ag2 m told l) fun a _ => ag2_len hm
  have h2 : (partsL (restL m told l)).length ≤ 32 := by
    rw [partsL_len]
    exact pow_small (by have := rest_len (m := m) (told := told) (l := l); omega)
  unfold ag3
  omega
end
theorem l_agrees_ok (H : Hs T x [n_l_with, n_l_added, n_l_parts, n_l_within, n_l_agrees]) {m : Nat} {ls : List (List Int)} (h : Lots m ls) : callN T (n + 3) (x.f n_l_agrees) [.d (.int m), .d (.tup (ls.map Lo))] S = .ok (.d (.lst ((ls.flatMap (ag3 m (sortL ls))).map P4))) S := by
  have hlen := h.len
  have hm5 := h.hm5
  rw [call_def (H.at (by simp)) rfl]
  refine run_d rfl ?_
  show exs _ (b_l_agrees x) [some (.d (.int m)), some (.d (.tup (ls.map Lo))), none, none, none, none, none, none, none, none] S = _
  refine set_lst (Q := (· = _)) (xs := ([] : List (List Int × Int × Int × List Int)).map P4) (by simp) ?_
  refine exs_loop (Q := (· = _)) (fun dn ρ S' => S' = S ∧ ∃ a b c d e f f2, ρ = [some (.d (.int m)), some (.d (.tup (ls.map Lo))), some (.d (.lst ((dn.flatMap (ag3 m (sortL ls))).map P4))), a, b, c, d, e, f, f2]) ls Lo (by simp) ⟨rfl, _, _, _, _, _, _, _, rfl⟩ ?_ ?_
  · rintro dn l rest ρ S' e ⟨rfl, a0, a1, a2, a3, a4, a5, a6, rfl⟩
    have hlm : l ∈ ls := by rw [e]; simp
    have hl5 := h.small hlm
    have hnd := (h.lot l hlm).nodup
    have hA := added_len (m := m) (told := sortL ls) (l := l)
    have hR := rest_len (m := m) (told := sortL ls) (l := l)
    have hdn : (dn.flatMap (ag3 m (sortL ls))).length ≤ 51200 := Nat.le_trans (flat_len fun a _ => ag3_len hm5) (by
      rw [e] at hlen; simp at hlen; omega)
    refine set_lstG (xs := (addedL m (sortL ls) l).map .int) (by simp [l_added_ok (H.sub (by simp)) hm5 hnd (show l.length ≤ 60 by omega)]) ?_
    refine exs_loopG (fun dn2 ρ S2 => S2 = S' ∧ ∃ a2 a3 a4 a5 a6, ρ = [some (.d (.int m)), some (.d (.tup (ls.map Lo))), some (.d (.lst ((dn.flatMap (ag3 m (sortL ls)) ++ dn2.flatMap (ag2 m (sortL ls) l)).map P4))), some (.d (Lo l)), some (.d (.lst ((addedL m (sortL ls) l).map .int))), a2, a3, a4, a5, a6]) (partsL (restL m (sortL ls) l)) Lo (ev_src ?_) ⟨rfl, a2, a3, a4, a5, a6, by simp⟩ ?_ ?_
    · have hc := ev_compM (g := T.g (callN T (n + 2))) (ρ := [some (.d (.int m)), some (.d (.tup (ls.map Lo))), some (.d (.lst ((dn.flatMap (ag3 m (sortL ls))).map P4))), some (.d (Lo l)), some (.d (.lst ((addedL m (sortL ls) l).map .int))), a2, a3, a4, a5, a6]) (S := S') (elt := .var 8) (tg := .one 8) (it := .range1 (.var 0)) (ifs := .yes (.and (.op .nmem (.var 8) (.var 3)) (.op .nmem (.var 8) (.var 4)))) (own := [8]) (rI m) D.int (fun t => !decide (t ∈ l) && !decide (t ∈ addedL m (sortL ls) l)) D.int (evI_rI (by simp) (by omega)) (by rw [rI_len]; exact lt_lim (by omega)) fun t ht => ⟨_, rfl, fun S'' => ⟨by rw [evO_yes]; exact tst_and' (by simp [wipe]) fun _ => by simp [wipe], fun _ => by simp [wipe]⟩⟩
      simp only [List.set_cons_succ, List.set_cons_zero]
      rw [ev_call, evh_cons, hc]
      have hp := l_parts_ok (T := T) (x := x) (n := n + 1) (S := S') (H.sub (by simp)) (l := restL m (sortL ls) l) (by omega)
      simp only [bind_ok, hand_new, of_some, evh_nil, G_call]
      exact hp
    · rintro dn2 r rest2 ρ S2 e2 ⟨rfl, b2, b3, b4, b5, b6, rfl⟩
      have hr5 : r.length ≤ 5 := by
        have : r ∈ partsL (restL m (sortL ls) l) := by rw [e2]; simp
        have := (partsL_sub this).length_le
        omega
      have hdn2 : (dn2.flatMap (ag2 m (sortL ls) l)).length ≤ 800 := Nat.le_trans (flat_len fun a _ => ag2_len hm5) (by
        have h2 : (partsL (restL m (sortL ls) l)).length ≤ 32 := by
          rw [partsL_len]
          exact pow_small (by omega)
        rw [e2] at h2; simp at h2; omega)
      refine set_lstG (xs := (goodL m (sortL ls) l r).map .int) (ev_compM (addedL m (sortL ls) l) D.int (fun t => withinB (sortL ls) (l ++ r ++ [t])) D.int (by simp) (lt_lim (by omega)) fun t ht => ⟨_, rfl, fun S'' => ⟨?_, fun _ => by simp [wipe]⟩⟩) ?_
      · have h1 : opD .add (Lo l) (Lo r) = some (.d (Lo (l ++ r))) := add_Lo (le_lim (by omega))
        have h2 : opD .add (Lo (l ++ r)) (.tup [.int t]) = some (.d (Lo (l ++ r ++ [t]))) := add_1 (by simp; omega)
        have h3 := l_within_ok (T := T) (x := x) (n := n + 1) (S := S'') (ls := ls) (s := l ++ r ++ [t]) (H.sub (by simp)) (by omega) (by simp; omega)
        rw [evO_yes]
        simp [-List.append_assoc, wipe, h1, h2, h3]
      refine exs_loopG (fun dn3 ρ S3 => S3 = S2 ∧ ∃ a4 a5 a6, ρ = [some (.d (.int m)), some (.d (.tup (ls.map Lo))), some (.d (.lst ((dn.flatMap (ag3 m (sortL ls)) ++ dn2.flatMap (ag2 m (sortL ls) l) ++ dn3.flatMap (ag1 m (sortL ls) l r)).map P4))), some (.d (Lo l)), some (.d (.lst ((addedL m (sortL ls) l).map .int))), some (.d (Lo r)), some (.d (.lst ((goodL m (sortL ls) l r).map .int))), a4, a5, a6]) (goodL m (sortL ls) l r) D.int (by simp) ⟨rfl, b4, b5, b6, by simp⟩ ?_ ?_
      · rintro dn3 one rest3 ρ S3 e3 ⟨rfl, c4, c5, c6, rfl⟩
        have hdn3 : (dn3.flatMap (ag1 m (sortL ls) l r)).length ≤ 25 := Nat.le_trans (flat_len fun a _ => ag1_len hm5) (by
          have h2 := good_len (m := m) (told := sortL ls) (l := l) (r := r)
          rw [e3] at h2; simp at h2; omega)
        refine set_lstG (xs := (dn.flatMap (ag3 m (sortL ls)) ++ dn2.flatMap (ag2 m (sortL ls) l) ++ (dn3 ++ [one]).flatMap (ag1 m (sortL ls) l r)).map P4) ?_ ⟨_, _, exs_nil, rfl, some (.d (.int one)), c5, c6, rfl⟩
        refine ev_op' (v := .d (.lst ((dn.flatMap (ag3 m (sortL ls)) ++ dn2.flatMap (ag2 m (sortL ls) l) ++ dn3.flatMap (ag1 m (sortL ls) l r)).map P4))) (by simp) rfl (ev_compM (addedL m (sortL ls) l) D.int (fun o => !decide (o ∈ goodL m (sortL ls) l r)) (fun other => P4 (l, one, other, r)) (by simp) (lt_lim (by omega)) fun o ho => ⟨_, rfl, fun S'' => ⟨by simp [wipe], fun _ => ⟨.d (P4 (l, one, o, r)), by simp [wipe]; rfl, rfl⟩⟩⟩) ?_
        have hl1 := ag1_len (m := m) (told := sortL ls) (l := l) (r := r) (one := one) hm5
        unfold ag1 at hl1
        rw [List.length_map] at hl1
        rw [op_ln, add_lst (le_lim (by simp only [List.length_map, List.length_append]; omega)), of_some]
        simp [ag1, Function.comp_def]
      · rintro ρ S3 ⟨rfl, c4, c5, c6, rfl⟩
        exact ⟨rfl, some (.d (Lo r)), some (.d (.lst ((goodL m (sortL ls) l r).map .int))), c4, c5, c6, by simp [ag2]⟩
    · rintro ρ S3 ⟨rfl, c2, c3, c4, c5, c6, rfl⟩
      exact ⟨rfl, some (.d (Lo l)), some (.d (.lst ((addedL m (sortL ls) l).map .int))), c2, c3, c4, c5, c6, by simp [ag3]⟩
  · rintro ρ' S' ⟨rfl, a, b, c, d, e, f, f2, rfl⟩
    simp
def spB (told : List (List Int)) (s o : List Int) : Bool := decide (s.length < o.length) && !growB told s o
def spsL (m : Nat) (ls : List (List Int)) (s : List Int) : List (List Int × List Int) := ((prtL m (sortL ls)).filter (spB (sortL ls) s)).map (Prod.mk s)
theorem l_spreads_ok (H : Hs T x [n_l_parts, n_l_within, n_l_spreads]) {m : Nat} {ls : List (List Int)} (h : Lots m ls) : callN T (n + 2) (x.f n_l_spreads) [.d (.int m), .d (.tup (ls.map Lo))] S = .ok (.new (.lst (((prtL m (sortL ls)).flatMap (spsL m ls)).map P2))) S := by
  have hlen := h.len
  have hm5 := h.hm5
  have hpp := parts_le hm5
  have hpl : (prtL m (sortL ls)).length ≤ 32 := Nat.le_trans (List.length_filter_le _ _) hpp
  have sm : ∀ s ∈ partsL (rI m), s.length ≤ 5 := fun s hs => by have := (partsL_sub hs).length_le; rw [rI_len] at this; omega
  have hone : ∀ l, (spsL m ls l).length ≤ 32 := fun l => by
    unfold spsL
    rw [List.length_map]
    exact Nat.le_trans (List.length_filter_le _ _) hpl
  rw [call_def (H.at (by simp)) rfl]
  refine run_own rfl ?_
  show exs _ (b_l_spreads x) [some (.d (.int m)), some (.d (.tup (ls.map Lo))), none, none, none, none, none, none] S = _
  have hc := ev_compM (g := T.g (callN T (n + 1))) (ρ := [some (.d (.int m)), some (.d (.tup (ls.map Lo))), none, none, none, none, none, none]) (S := S ++ [.lst []]) (elt := .var 4) (tg := .one 4) (it := .e (.call (x.f n_l_parts) (.cons false (.lrange (.var 0)) .nil))) (ifs := .yes (.call (x.f n_l_within) (.cons false (.var 1) (.cons false (.var 4) .nil)))) (own := [4]) (partsL (rI m)) Lo (withinB (sortL ls)) Lo (ev_src (ev_parts (H.sub (by simp)) (by simp) hm5)) (lt_lim (by omega)) fun s hs => ⟨_, rfl, fun S' => ⟨by
      have := sm s hs
      simp [wipe, l_within_ok (n := n) (H.sub (by simp)) (show ls.length ≤ 1000 by omega) (show s.length ≤ 1000 by omega)], fun _ => by simp [wipe]⟩⟩
  rw [show (partsL (rI m)).filter (withinB (sortL ls)) = prtL m (sortL ls) from rfl] at hc
  unfold b_l_spreads
  rw [exs_cons, ex_parBL (by simp) hc]
  simp only [List.set_cons_succ, List.set_cons_zero]
  refine exs_loop (Q := (· = _)) (fun dn ρ S' => S' = S ++ [.lst ((dn.flatMap (spsL m ls)).map P2)] ∧ ∃ a b c d, ρ = [some (.d (.int m)), some (.d (.tup (ls.map Lo))), some (.r S.length), some (.d (.lst ((prtL m (sortL ls)).map Lo))), a, b, c, d]) (prtL m (sortL ls)) Lo (by simp) ⟨by simp, _, _, _, _, rfl⟩ ?_ ?_
  · rintro dn s rest ρ S' e ⟨rfl, a, b, c, d, rfl⟩
    have hsm : s ∈ prtL m (sortL ls) := by rw [e]; simp
    have hs5 := sm s (List.mem_filter.mp hsm).1
    have hdn : (dn.flatMap (spsL m ls)).length ≤ 1024 := Nat.le_trans (flat_len fun a _ => hone a) (by
      rw [e] at hpl; simp at hpl; omega)
    refine exs_loopG (fun dn2 ρ S' => S' = S ++ [.lst ((dn.flatMap (spsL m ls) ++ (dn2.filter (spB (sortL ls) s)).map (Prod.mk s)).map P2)] ∧ ∃ b c d, ρ = [some (.d (.int m)), some (.d (.tup (ls.map Lo))), some (.r S.length), some (.d (.lst ((prtL m (sortL ls)).map Lo))), some (.d (Lo s)), b, c, d]) (prtL m (sortL ls)) Lo (by simp) ⟨by simp, b, c, d, rfl⟩ ?_ ?_
    · rintro dn2 o rest2 ρ S' e2 ⟨rfl, b, c, d, rfl⟩
      have hom : o ∈ prtL m (sortL ls) := by rw [e2]; simp
      have ho5 := sm o (List.mem_filter.mp hom).1
      have hd2 : (dn2.filter (spB (sortL ls) s)).length ≤ 32 := Nat.le_trans (List.length_filter_le _ _) (by rw [e2] at hpl; simp at hpl; omega)
      refine set_lstG (xs := (o.filter fun t => !decide (t ∈ s) && withinB (sortL ls) (s ++ [t])).map .int) (ev_compM o D.int (fun t => !decide (t ∈ s) && withinB (sortL ls) (s ++ [t])) D.int (by simp) (lt_lim (by omega)) fun t ht => ⟨_, rfl, fun S'' => ⟨?_, fun _ => by simp [wipe]⟩⟩) ⟨_, _, exs_ifapp (b := spB (sortL ls) s o) (d := P2 (s, o)) (by simp) (by simp; simp at hdn; omega) ?_ ⟨.d (P2 (s, o)), by simp; rfl, rfl⟩, ?_, some (.d (Lo o)), _, d, rfl⟩
      · rw [evO_yes]
        have h3 := l_within_ok (T := T) (x := x) (n := n) (S := S'') (ls := ls) (s := s ++ [t]) (H.sub (by simp)) (by omega) (by simp; omega)
        exact tst_and' (by simp [wipe]) fun _ => by simp [wipe, add_1 (show s.length ≤ 1000 by omega), h3]
      · have hb : spB (sortL ls) s o = (decide ((s.length : Int) < (o.length : Int)) && (o.filter fun t => !decide (t ∈ s) && withinB (sortL ls) (s ++ [t])).isEmpty) := by
          have hf : (fun t => !decide (t ∈ s) && withinB (sortL ls) (withT s t)) = (fun t => !decide (t ∈ s) && withinB (sortL ls) (s ++ [t])) := funext fun t => by
            rw [within_congr (s := withT s t) (t := s ++ [t]) fun i => by rw [mem_withT]; simp]
          unfold spB growB
          rw [isEmpty_filter, hf, show decide ((s.length : Int) < (o.length : Int)) = decide (s.length < o.length) from decide_eq_decide.mpr (by omega)]
        rw [hb]
        exact tst_and' (by simp) fun _ => tst_of (ev_op' (v := .d (.lst ((o.filter fun t => !decide (t ∈ s) && withinB (sortL ls) (s ++ [t])).map .int))) (by simp) rfl (w := .new (.lst [])) (by simp) (by rw [op_ln, eq_nilI, of_some]))
      · rw [List.filter_append, List.filter_cons, List.filter_nil]
        cases spB (sortL ls) s o <;> simp
    · rintro ρ S' ⟨rfl, b, c, d, rfl⟩
      exact ⟨by simp [spsL], some (.d (Lo s)), b, c, d, rfl⟩
  · rintro ρ' S' ⟨rfl, a, b, c, d, rfl⟩
    simp
end
end PL
set_option linter.all false
set_option Elab.async false
set_option maxRecDepth 100000
set_option maxHeartbeats 1000000
namespace PL
open MI PB
section
variable {m : Nat} {ls : List (List Int)}
theorem told_asc (h : Lots m ls) : (sortL ls).Pairwise (fun a b => ltL a b = true) := sortA_asc totL h.nd
theorem full_asc (h : Lots m ls) : (fullL m (sortL ls)).Pairwise (fun a b => ltL a b = true) := (told_asc h).sublist List.filter_sublist
theorem rI_ltI : (rI m).Pairwise (fun a b => ltI a b = true) := (rI_asc m).imp fun {a b} h => by simp [ltI, h]
theorem added_asc {l : List Int} : (addedL m (sortL ls) l).Pairwise (fun a b => ltI a b = true) := rI_ltI.sublist List.filter_sublist
theorem parts_asc {l : List Int} (h : l.Nodup) : (partsL l).Pairwise (fun a b => ltL a b = true) := by
  have := partsL_nodup h
  unfold partsL sortL at this ⊢
  exact sortA_asc totL ((sortA_spec totL (partsU l)).2.nodup_iff.mp this)
theorem rest_nd {l : List Int} : (restL m (sortL ls) l).Nodup := (Lot.rI (m := m)).nodup.sublist List.filter_sublist
theorem steps_eq (h : Lots m ls) : (sortL ls).find? (stepB (sortL ls)) = minO ltL (ls.filter (stepB (sortL ls))) :=
  (ismin_find totL (told_asc h)).uniq totL (minO_ok totL _) fun a => by
    rw [List.mem_filter, mem_sortL]
theorem extends_eq (h : Lots m ls) : ((sortL ls).findSome? fun l => (fullL m (sortL ls)).findSome? (extF (sortL ls) (fullL m (sortL ls)) m l)) = (minO lt2 (ls.flatMap (extsL m ls))).map P2 := by
  have e1 : ∀ l, (fullL m (sortL ls)).findSome? (extF (sortL ls) (fullL m (sortL ls)) m l) = (((fullL m (sortL ls)).find? (extB (sortL ls) m l)).map (Prod.mk l)).map P2 := fun l => by
    rw [Option.map_map, ← findSome_if]
    rfl
  have e2 : ((sortL ls).findSome? fun l => (fullL m (sortL ls)).findSome? (extF (sortL ls) (fullL m (sortL ls)) m l)) = ((sortL ls).findSome? fun l => ((fullL m (sortL ls)).find? (extB (sortL ls) m l)).map (Prod.mk l)).map P2 := by
    rw [List.map_findSome?]
    congr 1
    funext l
    exact e1 l
  rw [e2]
  congr 1
  refine (ismin_nest totL (told_asc h) fun l hl => ismin_find totL (full_asc h)).uniq tot2 (minO_ok tot2 _) fun q => ?_
  rw [List.mem_flatMap]
  constructor
  · rintro ⟨q1, q2, q3⟩
    exact ⟨q.1, mem_sortL.mp q1, List.mem_map.mpr ⟨q.2, List.mem_filter.mpr ⟨q2, q3⟩, rfl⟩⟩
  · rintro ⟨l, hl, hq⟩
    obtain ⟨o, ho, rfl⟩ := List.mem_map.mp hq
    exact ⟨mem_sortL.mpr hl, (List.mem_filter.mp ho).1, (List.mem_filter.mp ho).2⟩
theorem spreads_eq (h : Lots m ls) : spreadsL m (sortL ls) = (minO lt2 ((prtL m (sortL ls)).flatMap (spsL m ls))).map P2 := by
  have pa : (prtL m (sortL ls)).Pairwise (fun a b => ltL a b = true) := (parts_asc Lot.rI.nodup).sublist List.filter_sublist
  have e1 : ∀ l, ((prtL m (sortL ls)).findSome? fun o => spF (sortL ls) l o) = (((prtL m (sortL ls)).find? (spB (sortL ls) l)).map (Prod.mk l)).map P2 := fun l => by
    rw [Option.map_map, ← findSome_if]
    rfl
  have e2 : spreadsL m (sortL ls) = ((prtL m (sortL ls)).findSome? fun l => ((prtL m (sortL ls)).find? (spB (sortL ls) l)).map (Prod.mk l)).map P2 := by
    rw [List.map_findSome?]
    unfold spreadsL
    congr 1
    funext l
    exact e1 l
  rw [e2]
  congr 1
  refine (ismin_nest totL pa fun l hl => ismin_find totL pa).uniq tot2 (minO_ok tot2 _) fun q => ?_
  rw [List.mem_flatMap]
  constructor
  · rintro ⟨q1, q2, q3⟩
    exact ⟨q.1, q1, List.mem_map.mpr ⟨q.2, List.mem_filter.mpr ⟨q2, q3⟩, rfl⟩⟩
  · rintro ⟨l, hl, hq⟩
    obtain ⟨o, ho, rfl⟩ := List.mem_map.mp hq
    exact ⟨hl, (List.mem_filter.mp ho).1, (List.mem_filter.mp ho).2⟩
theorem both_eq {l s : List Int} {t : Int} : withinB (sortL ls) (withT (bothL l s) t) = withinB (sortL ls) (l ++ s ++ [t]) := within_congr fun i => by
  rw [mem_withT]
  unfold bothL
  rw [mem_sortI]
  simp [or_assoc]
theorem mem_ag3 {l : List Int} {q : List Int × Int × Int × List Int} : q ∈ ag3 m (sortL ls) l ↔ q.1 = l ∧ q.2.1 ∈ addedL m (sortL ls) l ∧ q.2.2.1 ∈ addedL m (sortL ls) l ∧ q.2.2.2 ∈ partsL (restL m (sortL ls) l) ∧ agB (sortL ls) l q.2.1 q.2.2.1 q.2.2.2 = true := by
  obtain ⟨l', one, other, r⟩ := q
  unfold ag3 ag2 ag1 agB
  simp only [List.mem_flatMap, List.mem_map, List.mem_filter, both_eq]
  constructor
  · rintro ⟨r', h1, one', h2, o', ⟨h3, h4⟩, h5⟩
    simp only [Prod.mk.injEq] at h5
    obtain ⟨rfl, rfl, rfl, rfl⟩ := h5
    unfold goodL at h2 h4
    rw [List.mem_filter] at h2
    simp [h3] at h4
    exact ⟨rfl, h2.1, h3, h1, by rw [h2.2, List.append_assoc l r', h4]; rfl⟩
  · rintro ⟨h0, h2, h3, h1, h4⟩
    have h0 : l' = l := h0
    subst h0
    rw [Bool.and_eq_true, Bool.not_eq_true'] at h4
    refine ⟨r, h1, one, ?_, other, ⟨h3, ?_⟩, rfl⟩
    · unfold goodL
      exact List.mem_filter.mpr ⟨h2, h4.1⟩
    · unfold goodL
      have h5 := h4.2
      simp only [List.append_assoc] at h5
      simp [List.mem_filter, h3, h5]
theorem agrees_eq (h : Lots m ls) : agreesL m (sortL ls) = (minO lt4 (ls.flatMap (ag3 m (sortL ls)))).map P4 := by
  have e1 : agreesL m (sortL ls) = ((sortL ls).findSome? fun l => ((addedL m (sortL ls) l).findSome? fun one => ((addedL m (sortL ls) l).findSome? fun other => ((partsL (restL m (sortL ls) l)).find? (agB (sortL ls) l one other)).map (Prod.mk other)).map (Prod.mk one)).map (Prod.mk l)).map P4 := by
    unfold agreesL
    simp only [List.map_findSome?]
    congr 1
    funext l
    simp only [Function.comp, List.map_findSome?]
    congr 1
    funext one
    simp only [Function.comp, List.map_findSome?]
    congr 1
    funext other
    simp only [Function.comp, Option.map_map]
    rw [← findSome_if]
    rfl
  rw [e1]
  congr 1
  refine (ismin_nest totL (told_asc h) fun l hl => ismin_nest totI (added_asc (l := l)) fun one h1 => ismin_nest totI (added_asc (l := l)) fun other h2 => ismin_find totL (parts_asc rest_nd)).uniq tot4 (minO_ok tot4 _) fun q => ?_
  rw [List.mem_flatMap]
  constructor
  · rintro ⟨q1, q2, q3, q4, q5⟩
    exact ⟨q.1, mem_sortL.mp q1, mem_ag3.mpr ⟨rfl, q2, q3, q4, q5⟩⟩
  · rintro ⟨l, hl, hq⟩
    obtain ⟨rfl, q2, q3, q4, q5⟩ := mem_ag3.mp hq
    exact ⟨mem_sortL.mpr hl, q2, q3, q4, q5⟩
/-! what comes out is equal to itself -/
theorem eqa_min {α : Type} {lt : α → α → Bool} (t : Tot lt) {c : α → D} {L : List α} {f : Nat} (h : ∀ a ∈ L, Eqa f (c a)) : Eqa f (optD ((minO lt L).map c)) := by
  cases e : minO lt L with
  | none => exact .non
  | some a =>
    have := minO_ok t L
    rw [e] at this
    exact h a this.1
theorem eqa_lots (h : Lots m ls) {l : List Int} (hl : l ∈ ls) : Eqa 1 (Lo l) := eqa_Lo (by have := h.small hl; omega)
theorem eqa_P2 {q : List Int × List Int} (h1 : Eqa 1 (Lo q.1)) (h2 : Eqa 1 (Lo q.2)) : Eqa 2 (P2 q) := .tup (by simp) fun d hd => by
  simp at hd
  rcases hd with rfl | rfl <;> assumption
theorem eqa_P4 {q : List Int × Int × Int × List Int} (h1 : Eqa 1 (Lo q.1)) (h2 : Eqa 1 (Lo q.2.2.2)) : Eqa 2 (P4 q) := .tup (by simp) fun d hd => by
  simp at hd
  rcases hd with rfl | rfl | rfl | rfl
  · exact h1
  · exact .int
  · exact .int
  · exact h2
theorem eqa_part {l s : List Int} (hl : l.length ≤ 5) (h : s ∈ partsL l) : Eqa 1 (Lo s) := eqa_Lo (by have := (partsL_sub h).length_le; omega)
theorem eqa_steps (h : Lots m ls) : Eqa 2 (optD ((minO ltL (ls.filter (stepB (sortL ls)))).map Lo)) := eqa_mono (eqa_min totL fun a ha => eqa_lots h (List.mem_filter.mp ha).1) (by omega)
theorem eqa_extends (h : Lots m ls) : Eqa 2 (optD ((minO lt2 (ls.flatMap (extsL m ls))).map P2)) := eqa_min tot2 fun a ha => by
  obtain ⟨l, hl, hq⟩ := List.mem_flatMap.mp ha
  obtain ⟨o, ho, rfl⟩ := List.mem_map.mp hq
  exact eqa_P2 (eqa_lots h hl) (eqa_lots h (mem_sortL.mp (List.mem_filter.mp (List.mem_filter.mp ho).1).1))
theorem eqa_spreads (h : Lots m ls) : Eqa 2 (optD ((minO lt2 ((prtL m (sortL ls)).flatMap (spsL m ls))).map P2)) := eqa_min tot2 fun a ha => by
  obtain ⟨l, hl, hq⟩ := List.mem_flatMap.mp ha
  obtain ⟨o, ho, rfl⟩ := List.mem_map.mp hq
  have hm5 := h.hm5
  exact eqa_P2 (eqa_part (by rw [rI_len]; exact hm5) (List.mem_filter.mp hl).1) (eqa_part (by rw [rI_len]; exact hm5) (List.mem_filter.mp (List.mem_filter.mp ho).1).1)
theorem eqa_agrees (h : Lots m ls) : Eqa 2 (optD ((minO lt4 (ls.flatMap (ag3 m (sortL ls)))).map P4)) := eqa_min tot4 fun a ha => by
  obtain ⟨l, hl, hq⟩ := List.mem_flatMap.mp ha
  obtain ⟨rfl, _, _, q4, _⟩ := mem_ag3.mp hq
  exact eqa_P4 (eqa_lots h hl) (eqa_part (by have := rest_len (m := m) (told := sortL ls) (l := a.1); have := h.hm5; omega) q4)
end
section
variable {T : Txt} {x : Ix} {n : Nat} {S S1 : Sto} {g : G} {ρ ρ1 : Rho} {α : Type}
theorem stepG {s : MI.S} {r : Ss} {P : Rho → Sto → Prop} (h : ex g s ρ S = .nx ρ1 S1) (k : ∃ ρ' S', exs g r ρ1 S1 = .nx ρ' S' ∧ P ρ' S') : ∃ ρ' S', exs g (.cons s r) ρ S = .nx ρ' S' ∧ P ρ' S' := by
  rw [exs_cons, h]; exact k
theorem ifG {c : E} {a r : Ss} {P : Rho → Sto → Prop} (hc : tst (ev g c ρ S) = .ok false S) (k : ∃ ρ' S', exs g r ρ S = .nx ρ' S' ∧ P ρ' S') : ∃ ρ' S', exs g (.cons (.ite c a .nil) r) ρ S = .nx ρ' S' ∧ P ρ' S' := by
  rw [exs_cons, ex_ite, hc, then_ok]
  simp only [Bool.false_eq_true, if_false, exs_nil]
  exact k
theorem set_valE' {i : Nat} {b : Bool} {e : E} {d : D} (h : ev g e ρ S = .ok (.d d) S1) : ex g (.set i b e) ρ S = .nx (ρ.set i (some (.d d))) S1 := by
  rw [ex_set, h]; rfl
theorem ev_call1 {f : Nat} {a : E} {v v' : RV} {r : R RV} (ha : ev g a ρ S = .ok v S1) (hv : v.hand = some v') (hc : g.call f [v'] S1 = r) : ev g (.call f (.cons false a .nil)) ρ S = r := by
  rw [ev_call, evh_cons, ha, bind_ok, hv, of_some, bind_ok, evh_nil, bind_ok, bind_ok, hc]
/-- not equal(a, first(b)) -/
theorem check {a b : E} {d : D} {fe : Nat} (ha : ev g a ρ S = .ok (.d d) S) (hb : ev g b ρ S = .ok (.d d) S) (hq : g.call fe [.d d, .d d] S = .ok (.d (.bl true)) S) : tst (ev g (.not (.call fe (.cons false a (.cons false b .nil)))) ρ S) = .ok false S :=
  tst_not' (p := true) (tst_of (ev_call2 ha rfl hb rfl hq))
end
end PL
set_option linter.all false
set_option Elab.async false
set_option maxRecDepth 100000
set_option maxHeartbeats 1000000
namespace PL
open MI PB
/-! ### ascending lists -/
theorem partsU_full : ∀ (l : List Int) (a : List (List Int)) (u v : List Int), u ∈ a → v.Sublist l → u ++ v ∈ l.foldl (fun f t => f ++ f.map (· ++ [t])) a
  | [], a, u, v, h, s => by
    rw [List.sublist_nil] at s
    subst s
    simpa using h
  | t :: l, a, u, v, h, s => by
    rw [List.foldl_cons]
    cases s with
    | cons _ s => exact partsU_full l _ u v (List.mem_append_left _ h) s
    | cons_cons _ s =>
      rename_i v'
      have := partsU_full l (a ++ a.map (· ++ [t])) (u ++ [t]) v' (List.mem_append_right _ (List.mem_map.mpr ⟨u, h, rfl⟩)) s
      simpa using this
theorem asc_sub : ∀ {r l : List Int}, l.Pairwise (· < ·) → r.Pairwise (· < ·) → (∀ i ∈ l, i ∈ r) → l.Sublist r
  | [], l, _, _, h => by
    cases l with
    | nil => exact List.Sublist.refl _
    | cons a l => have := h a List.mem_cons_self; simp at this
  | b :: r, [], _, _, _ => List.nil_sublist _
  | b :: r, a :: l, hl, hr, h => by
    obtain ⟨l1, l2⟩ := List.pairwise_cons.mp hl
    obtain ⟨r1, r2⟩ := List.pairwise_cons.mp hr
    by_cases e : a = b
    · subst e
      refine (asc_sub l2 r2 fun i hi => ?_).cons₂ a
      rcases List.mem_cons.mp (h i (List.mem_cons_of_mem _ hi)) with q | q
      · have := l1 i hi; omega
      · exact q
    · have ha : a ∈ r := (List.mem_cons.mp (h a List.mem_cons_self)).resolve_left e
      have hba := r1 a ha
      refine (asc_sub hl r2 fun i hi => ?_).cons b
      rcases List.mem_cons.mp (h i hi) with q | q
      · rcases List.mem_cons.mp hi with z | z
        · exact (e (z.symm.trans q)).elim
        · have := l1 i z; omega
      · exact q
theorem asc_ext {l r : List Int} (hl : l.Pairwise (· < ·)) (hr : r.Pairwise (· < ·)) (h : ∀ i, i ∈ l ↔ i ∈ r) : l = r :=
  (asc_sub hl hr fun i hi => (h i).mp hi).eq_of_length_le (asc_sub hr hl fun i hi => (h i).mpr hi).length_le
theorem lot_parts {m : Nat} {l : List Int} (h : Lot m l) : l ∈ partsL (rI m) := by
  unfold partsL sortL
  rw [(sortA_spec totL _).2.mem_iff]
  unfold partsU
  have := partsU_full (rI m) [[]] [] l (by simp) (asc_sub h.2 (rI_asc m) fun i hi => mem_rI.mpr (h.1 i hi))
  simpa using this
theorem lots_pow {m : Nat} {ls : List (List Int)} (nd : ls.Nodup) (h : ∀ l ∈ ls, Lot m l) : ls.length ≤ 2 ^ m := by
  have := nodup_le nd fun l hl => lot_parts (h l hl)
  rw [partsL_len, rI_len] at this
  exact this
/-- lots of a kind -/
theorem Lots.mk' {m : Nat} {ls : List (List Int)} (h1 : 1 ≤ m) (h5 : m ≤ 5) (nil : [] ∈ ls) (nd : ls.Nodup) (lot : ∀ l ∈ ls, Lot m l) : Lots m ls := ⟨h1, h5, nil, nd, lot, by
  have := lots_pow nd lot
  have := pow_small h5
  omega⟩
theorem Lots.sort {m : Nat} {ls : List (List Int)} (h : Lots m ls) : Lots m (sortL ls) := ⟨h.hm, h.hm5, mem_sortL.mpr h.nil, (sortA_spec totL ls).2.nodup_iff.mpr h.nd, fun l hl => h.lot l (mem_sortL.mp hl), by rw [len_sortL]; exact h.len⟩
theorem sortL_perm {a b : List (List Int)} (h : a.Perm b) : sortL a = sortL b := sortA_perm totL h
theorem sortL_sort {ls : List (List Int)} : (sortL ls).Perm ls := (sortA_spec totL ls).2
theorem eqa_Los {ls : List (List Int)} (h : ls.length ≤ 1000) (h2 : ∀ l ∈ ls, l.length ≤ 1000) : Eqa 2 (.tup (ls.map Lo)) := .tup (by simpa using h) fun d hd => by
  obtain ⟨l, hl, rfl⟩ := List.mem_map.mp hd
  exact eqa_Lo (h2 l hl)
theorem Lots.eqa {m : Nat} {ls : List (List Int)} (h : Lots m ls) : Eqa 2 (.tup ((sortL ls).map Lo)) := eqa_Los (by rw [len_sortL]; have := h.len; omega) fun l hl => by
  have := h.small (mem_sortL.mp hl); omega
/-! ### errors -/
structure Exs (T : Txt) (x : Ix) (l : List Nat) : Prop where
  lt : ∀ a ∈ l, x.c a < T.init.length
  sub : ∀ a ∈ l, ∀ b ∈ l, T.sub (x.c a) (x.c b) = (a == b)
section
variable {T : Txt} {x : Ix} {n : Nat} {S S1 S2 : Sto} {g : G} {ρ ρ1 : Rho}
@[simp] theorem ex_try {b : Ss} {hs : List Hd} : ex g (.try_ b hs) ρ S = (match exs g b ρ S with
    | .exc c fs ρ1 S1 => if decide (c < g.init.length) && g.sub c c then catchX g.sub c fs ρ1 S1 hs else .fail
    | r => r) := by first | (rw [ex]; done) | (rw [ex]; rfl)
theorem run_exc {fd : Fd} {vs : List RV} {c : Nat} {fs : List D} {ρ' : Rho} (hl : vs.length = fd.np) (h : exs g fd.body (vs.map some ++ List.replicate (fd.nn - fd.np) none) S = .exc c fs ρ' S) : runF g fd vs S = .exc c fs S := by
  unfold runF
  rw [if_pos hl, h]
  simp
theorem run_nx {fd : Fd} {vs : List RV} {ρ' : Rho} (hl : vs.length = fd.np) (h : exs g fd.body (vs.map some ++ List.replicate (fd.nn - fd.np) none) S = .nx ρ' S) : runF g fd vs S = .ok (.d .non) S := by
  unfold runF
  rw [if_pos hl, h]
  simp
/-- a kind made -/
theorem ev_kind (H : Hs T x [n_is_integer, n_is_from, n_is_rising, n_Kind___init__]) (V : Env T x) {m : Nat} {ls : List (List Int)} {a b : E} (h : Lots m ls) (ha : ev (T.g (callN T (n + 4))) a ρ S = .ok (.d (.int m)) S) (hb : ev (T.g (callN T (n + 4))) b ρ S = .ok (.d (.tup (ls.map Lo))) S) :
    ev (T.g (callN T (n + 4))) (.mk (x.c c_Kind) (.cons false a (.cons false b .nil))) ρ S = .ok (.new (.inst (x.c c_Kind) [.int m, .tup ((sortL ls).map Lo)])) S := by
  rw [ev_mk, evh_cons, ha]
  simp only [bind_ok, hand_d, of_some]
  rw [evh_cons, hb]
  simp only [bind_ok, hand_d, of_some, evh_nil]
  exact kind_ok H V h
theorem kind_lots_ok (H : Hs T x [n_Kind_lots]) {m : Nat} {told : List (List Int)} : callN T (n + 1) (x.f n_Kind_lots) [.d (Kd x m told)] S = .ok (.d (.tup (told.map Lo))) S := by
  rw [call_def (H.at (by simp)) rfl]
  refine run_d rfl ?_
  show exs _ (b_Kind_lots x) [some (.d (Kd x m told))] S = _
  simp [b_Kind_lots]
theorem kind_things_ok (H : Hs T x [n_Kind_things]) {m : Nat} {told : List (List Int)} : callN T (n + 1) (x.f n_Kind_things) [.d (Kd x m told)] S = .ok (.d (.int m)) S := by
  rw [call_def (H.at (by simp)) rfl]
  refine run_d rfl ?_
  show exs _ (b_Kind_things x) [some (.d (Kd x m told))] S = _
  simp [b_Kind_things]
theorem isObj_Kd {m : Nat} {told : List (List Int)} : isObjOf S (x.c c_Kind) (.d (Kd x m told)) = true := by simp [isObjOf, Kd]
/-- ...lots, ...things of a kind that comes out of an expression -/
theorem ev_lots (H : Hs T x [n_Kind_lots]) {a : E} {v : RV} {m : Nat} {told : List (List Int)} (ha : ev (T.g (callN T (n + 1))) a ρ S = .ok v S) (hv : v.hand = some (.d (Kd x m told))) : ev (T.g (callN T (n + 1))) (.prop (x.c c_Kind) (x.f n_Kind_lots) a) ρ S = .ok (.d (.tup (told.map Lo))) S := by
  rw [ev_prop, ha, bind_ok, hv, of_some, bind_ok, isObj_Kd, if_pos rfl, G_call, kind_lots_ok H]; rfl
theorem ev_things (H : Hs T x [n_Kind_things]) {a : E} {v : RV} {m : Nat} {told : List (List Int)} (ha : ev (T.g (callN T (n + 1))) a ρ S = .ok v S) (hv : v.hand = some (.d (Kd x m told))) : ev (T.g (callN T (n + 1))) (.prop (x.c c_Kind) (x.f n_Kind_things) a) ρ S = .ok (.d (.int m)) S := by
  rw [ev_prop, ha, bind_ok, hv, of_some, bind_ok, isObj_Kd, if_pos rfl, G_call, kind_things_ok H]; rfl
theorem ev_callX2 {f : Nat} {a b : E} {v v' w w' : RV} {c : Nat} {fs : List D} (ha : ev g a ρ S = .ok v S) (hv : v.hand = some v') (hb : ev g b ρ S = .ok w S) (hw : w.hand = some w') (hc : g.call f [v', w'] S = .exc c fs S) : ev g (.call f (.cons false a (.cons false b .nil))) ρ S = .exc c fs S := ev_call2 ha hv hb hw hc
end
end PL
set_option linter.all false
set_option Elab.async false
set_option maxRecDepth 100000
set_option maxHeartbeats 1000000
namespace PL
open MI PB
/-! ### k10: kinds of kinds -/
def dn (t i : Int) : Int := if t < i then i - 1 else i
def up (t j : Int) : Int := if t ≤ j then j + 1 else j
theorem up_dn {t i : Int} (h : i ≠ t) : up t (dn t i) = i := by
  unfold up dn
  split <;> split <;> omega
def closeT (t : Int) (l : List Int) : List Int := (withoutT l t).map (dn t)
theorem mem_withoutT {l : List Int} {t i : Int} : i ∈ withoutT l t ↔ i ∈ l ∧ i ≠ t := by
  unfold withoutT
  rw [List.mem_filter]
  simp
theorem withoutT_id {l : List Int} {t : Int} (h : t ∉ l) : withoutT l t = l := by
  unfold withoutT
  rw [List.filter_eq_self.mpr]
  intro i hi
  have : i ≠ t := fun e => h (e ▸ hi)
  simp [this]
theorem close_back {l : List Int} {t : Int} : (closeT t l).map (up t) = withoutT l t := by
  unfold closeT
  rw [List.map_map]
  refine (List.map_congr_left fun i hi => ?_).trans (List.map_id _)
  exact up_dn (mem_withoutT.mp hi).2
theorem lot_without {m : Nat} {l : List Int} {t : Int} (h : Lot m l) : Lot m (withoutT l t) := h.sub List.filter_sublist
theorem lot_close {m : Nat} {l : List Int} {t : Int} (h : Lot m l) (h0 : 0 ≤ t) (h1 : t < (m : Int)) : Lot (m - 1) (closeT t l) := by
  have hw := lot_without (t := t) h
  refine ⟨fun i hi => ?_, ?_⟩
  · unfold closeT at hi
    obtain ⟨j, hj, rfl⟩ := List.mem_map.mp hi
    have h2 := hw.1 j hj
    have h3 := (mem_withoutT.mp hj).2
    unfold dn
    split <;> omega
  · unfold closeT
    rw [List.pairwise_map]
    have hp := hw.2
    refine List.Pairwise.imp_of_mem (fun {a b} ha hb hab => ?_) hp
    have h3 := (mem_withoutT.mp ha).2
    have h4 := (mem_withoutT.mp hb).2
    unfold dn
    split <;> split <;> omega
theorem close_inj0 {l o : List Int} {t : Int} (hl : t ∉ l) (ho : t ∉ o) (e : closeT t l = closeT t o) : l = o := by
  have := congrArg (List.map (up t)) e
  rw [close_back, close_back, withoutT_id hl, withoutT_id ho] at this
  exact this
theorem close_inj1 {m : Nat} {l o : List Int} {t : Int} (hl : Lot m l) (ho : Lot m o) (tl : t ∈ l) (to : t ∈ o) (e : closeT t l = closeT t o) : l = o := by
  have := congrArg (List.map (up t)) e
  rw [close_back, close_back] at this
  refine asc_ext hl.2 ho.2 fun i => ?_
  have hi : i ∈ withoutT l t ↔ i ∈ withoutT o t := by rw [this]
  rw [mem_withoutT, mem_withoutT] at hi
  by_cases z : i = t
  · subst z; exact ⟨fun _ => to, fun _ => tl⟩
  · simpa [z] using hi
def woL (ls : List (List Int)) (t : Int) : List (List Int) := (ls.filter fun l => !decide (t ∈ l)).map (closeT t)
def beL (ls : List (List Int)) (t : Int) : List (List Int) := (ls.filter fun l => decide (t ∈ l)).map (closeT t)
theorem nodup_mapOn {α β : Type} {f : α → β} : ∀ {l : List α}, l.Nodup → (∀ a ∈ l, ∀ b ∈ l, f a = f b → a = b) → (l.map f).Nodup
  | [], _, _ => List.nodup_nil
  | a :: l, h, i => by
    obtain ⟨h1, h2⟩ := List.nodup_cons.mp h
    rw [List.map_cons]
    refine List.nodup_cons.mpr ⟨fun hm => ?_, nodup_mapOn h2 fun a ha b hb => i a (List.mem_cons_of_mem _ ha) b (List.mem_cons_of_mem _ hb)⟩
    obtain ⟨b, hb, e⟩ := List.mem_map.mp hm
    exact h1 (i b (List.mem_cons_of_mem _ hb) a List.mem_cons_self e ▸ hb)
section
variable {m : Nat} {ls : List (List Int)} {t : Int}
theorem lots_wo (h : Lots m ls) (h0 : 0 ≤ t) (h1 : t < (m : Int)) (h2 : m ≠ 1) : Lots (m - 1) (woL ls t) := by
  have := h.hm
  have := h.hm5
  refine .mk' (by omega) (by omega) ?_ ?_ fun l hl => ?_
  · exact List.mem_map.mpr ⟨[], List.mem_filter.mpr ⟨h.nil, by simp⟩, rfl⟩
  · refine nodup_mapOn (h.nd.sublist List.filter_sublist) fun a ha b hb e => close_inj0 ?_ ?_ e
    · have := (List.mem_filter.mp ha).2; simpa using this
    · have := (List.mem_filter.mp hb).2; simpa using this
  · obtain ⟨o, ho, rfl⟩ := List.mem_map.mp hl
    exact lot_close (h.lot o (List.mem_filter.mp ho).1) h0 h1
theorem lots_be (h : Lots m ls) (h0 : 0 ≤ t) (h1 : t < (m : Int)) (h2 : m ≠ 1) (h3 : [t] ∈ ls) : Lots (m - 1) (beL ls t) := by
  have := h.hm
  have := h.hm5
  refine .mk' (by omega) (by omega) ?_ ?_ fun l hl => ?_
  · exact List.mem_map.mpr ⟨[t], List.mem_filter.mpr ⟨h3, by simp⟩, by simp [closeT, withoutT]⟩
  · refine nodup_mapOn (h.nd.sublist List.filter_sublist) fun a ha b hb e => close_inj1 (h.lot a (List.mem_filter.mp ha).1) (h.lot b (List.mem_filter.mp hb).1) ?_ ?_ e
    · have := (List.mem_filter.mp ha).2; simpa using this
    · have := (List.mem_filter.mp hb).2; simpa using this
  · obtain ⟨o, ho, rfl⟩ := List.mem_map.mp hl
    exact lot_close (h.lot o (List.mem_filter.mp ho).1) h0 h1
theorem wo_sort : sortL (woL (sortL ls) t) = sortL (woL ls t) := sortL_perm ((sortL_sort.filter _).map _)
theorem be_sort : sortL (beL (sortL ls) t) = sortL (beL ls t) := sortL_perm ((sortL_sort.filter _).map _)
def cutL (ls : List (List Int)) (k : Int) : List (List Int) := ls.filter fun l => decide ((l.length : Int) ≤ k)
theorem lots_cut {k : Int} (h : Lots m ls) (hk : 0 ≤ k) : Lots m (cutL ls k) :=
  ⟨h.hm, h.hm5, List.mem_filter.mpr ⟨h.nil, by simpa using hk⟩, h.nd.sublist List.filter_sublist, fun l hl => h.lot l (List.mem_filter.mp hl).1, Nat.le_trans (List.length_filter_le _ _) h.len⟩
theorem cut_sort {k : Int} : sortL (cutL (sortL ls) k) = sortL (cutL ls k) := sortL_perm (sortL_sort.filter _)
/-! joined -/
def shiftL (m : Nat) (l : List Int) : List Int := l.map (· + (m : Int))
def joinL (m : Nat) (ls os : List (List Int)) : List (List Int) := ls.flatMap fun l => os.map fun o => l ++ shiftL m o
theorem join_inj {l l' o o' : List Int} (hl : ∀ i ∈ l, i < (m : Int)) (hl' : ∀ i ∈ l', i < (m : Int)) (ho : ∀ i ∈ o, 0 ≤ i) (ho' : ∀ i ∈ o', 0 ≤ i) (e : l ++ shiftL m o = l' ++ shiftL m o') : l = l' ∧ o = o' := by
  have f : ∀ (l o : List Int), (∀ i ∈ l, i < (m : Int)) → (∀ i ∈ o, 0 ≤ i) → (l ++ shiftL m o).filter (fun i => decide (i < (m : Int))) = l ∧ ((l ++ shiftL m o).filter (fun i => decide ((m : Int) ≤ i))).map (· - (m : Int)) = o := fun l o h1 h2 => by
    have a1 : l.filter (fun i => decide (i < (m : Int))) = l := List.filter_eq_self.mpr fun i hi => by simpa using h1 i hi
    have a2 : (shiftL m o).filter (fun i => decide (i < (m : Int))) = [] := List.filter_eq_nil_iff.mpr fun i hi => by
      obtain ⟨j, hj, rfl⟩ := List.mem_map.mp hi
      have := h2 j hj
      simp; omega
    have a3 : l.filter (fun i => decide ((m : Int) ≤ i)) = [] := List.filter_eq_nil_iff.mpr fun i hi => by
      have := h1 i hi
      simp; omega
    have a4 : (shiftL m o).filter (fun i => decide ((m : Int) ≤ i)) = shiftL m o := List.filter_eq_self.mpr fun i hi => by
      obtain ⟨j, hj, rfl⟩ := List.mem_map.mp hi
      have := h2 j hj
      simp; omega
    rw [List.filter_append, List.filter_append, a1, a2, a3, a4, List.append_nil, List.nil_append]
    refine ⟨rfl, ?_⟩
    unfold shiftL
    rw [List.map_map]
    refine (List.map_congr_left fun i _ => ?_).trans (List.map_id _)
    simp
  obtain ⟨p1, p2⟩ := f l o hl ho
  obtain ⟨q1, q2⟩ := f l' o' hl' ho'
  rw [e] at p1 p2
  exact ⟨p1.symm.trans q1, p2.symm.trans q2⟩
theorem lot_join {k : Nat} {l o : List Int} (h1 : Lot m l) (h2 : Lot k o) : Lot (m + k) (l ++ shiftL m o) := by
  refine ⟨fun i hi => ?_, ?_⟩
  · rcases List.mem_append.mp hi with q | q
    · have := h1.1 i q; omega
    · obtain ⟨j, hj, rfl⟩ := List.mem_map.mp q
      have := h2.1 j hj
      omega
  · rw [List.pairwise_append]
    refine ⟨h1.2, ?_, fun a ha b hb => ?_⟩
    · unfold shiftL
      rw [List.pairwise_map]
      exact h2.2.imp fun {a b} q => by omega
    · obtain ⟨j, hj, rfl⟩ := List.mem_map.mp hb
      have := h1.1 a ha
      have := h2.1 j hj
      omega
theorem nodup_flat {α β : Type} {f : α → List β} : ∀ {l : List α}, l.Nodup → (∀ a ∈ l, (f a).Nodup) → (∀ a ∈ l, ∀ b ∈ l, ∀ x, x ∈ f a → x ∈ f b → a = b) → (l.flatMap f).Nodup
  | [], _, _, _ => List.nodup_nil
  | a :: l, h, h1, h2 => by
    obtain ⟨n1, n2⟩ := List.nodup_cons.mp h
    rw [List.flatMap_cons, List.nodup_append]
    refine ⟨h1 a List.mem_cons_self, nodup_flat n2 (fun b hb => h1 b (List.mem_cons_of_mem _ hb)) fun b hb c hc => h2 b (List.mem_cons_of_mem _ hb) c (List.mem_cons_of_mem _ hc), fun x hx y hy e => ?_⟩
    subst e
    obtain ⟨b, hb, hxb⟩ := List.mem_flatMap.mp hy
    exact n1 (h2 a List.mem_cons_self b (List.mem_cons_of_mem _ hb) x hx hxb ▸ hb)
theorem lots_join {k : Nat} {os : List (List Int)} (h : Lots m ls) (ho : Lots k os) (hk : m + k ≤ 5) : Lots (m + k) (joinL m ls os) := by
  have := h.hm
  refine .mk' (by omega) hk ?_ ?_ fun l hl => ?_
  · exact List.mem_flatMap.mpr ⟨[], h.nil, List.mem_map.mpr ⟨[], ho.nil, rfl⟩⟩
  · refine nodup_flat h.nd (fun l hl => nodup_mapOn ho.nd fun a ha b hb e => ?_) fun a ha b hb x hx hy => ?_
    · exact (join_inj (fun i hi => ((h.lot l hl).1 i hi).2) (fun i hi => ((h.lot l hl).1 i hi).2) (fun i hi => ((ho.lot a ha).1 i hi).1) (fun i hi => ((ho.lot b hb).1 i hi).1) e).2
    · obtain ⟨o, h1, rfl⟩ := List.mem_map.mp hx
      obtain ⟨o', h2, e⟩ := List.mem_map.mp hy
      exact (join_inj (fun i hi => ((h.lot b hb).1 i hi).2) (fun i hi => ((h.lot a ha).1 i hi).2) (fun i hi => ((ho.lot o' h2).1 i hi).1) (fun i hi => ((ho.lot o h1).1 i hi).1) e).1.symm
  · obtain ⟨a, ha, hx⟩ := List.mem_flatMap.mp hl
    obtain ⟨o, h1, rfl⟩ := List.mem_map.mp hx
    exact lot_join (h.lot a ha) (ho.lot o h1)
theorem perm_flat {α β : Type} {f g : α → List β} (h : ∀ a, (f a).Perm (g a)) : ∀ l : List α, (l.flatMap f).Perm (l.flatMap g)
  | [] => List.Perm.refl _
  | a :: l => by
    rw [List.flatMap_cons, List.flatMap_cons]
    exact (h a).append (perm_flat h l)
theorem join_sort {os : List (List Int)} : sortL (joinL m (sortL ls) (sortL os)) = sortL (joinL m ls os) := by
  refine sortL_perm ?_
  unfold joinL
  refine (sortL_sort.flatMap_right _).trans ?_
  refine perm_flat (fun l => sortL_sort.map _) _
end
section
variable {T : Txt} {x : Ix} {n : Nat} {S S1 S2 : Sto} {g : G} {ρ ρ1 : Rho}
/-! the program -/
theorem closed_up_ok (H : Hs T x [n_without_thing, n_closed_up]) {l : List Int} {t : Int} (hl : l.length < 1000) : callN T (n + 2) (x.f n_closed_up) [.d (Lo l), .d (.int t)] S = .ok (.d (Lo (closeT t l))) S := by
  rw [call_def (H.at (by simp)) rfl]
  refine run_d rfl ?_
  show exs _ (b_closed_up x) [some (.d (Lo l)), some (.d (.int t)), none] S = _
  refine exs_ret (ev_tuple1 ?_)
  rw [ev_compM (withoutT l t) D.int (fun _ => true) (fun i => D.int (dn t i)) (by simp [without_ok (H.sub (by simp)) hl]) (lt_lim (by have := List.length_filter_le (fun i => !(i == t)) l; unfold withoutT; omega)) fun i hi => ⟨_, rfl, fun S' => ⟨evO_no, fun _ => ⟨.d (.int (dn t i)), ?_, rfl⟩⟩⟩]
  · rw [List.filter_eq_self.mpr (fun _ _ => rfl)]
    unfold closeT
    rw [List.map_map]
    rfl
  · by_cases h : t < i
    · simp [wipe, h, dn]
    · simp [wipe, h, dn]
/-- a value that names a thing, not the only one -/
def thingB (m : Nat) (v : D) : Bool := fromB 0 ((m : Int) - 1) v && !(m == 1)
theorem check_thing_ok (H : Hs T x [n_is_integer, n_is_from, n_check_thing]) {m : Nat} {told : List (List Int)} {v : D} (ho : objOk x.obs v = true) :
    callN T (n + 3) (x.f n_check_thing) [.d (Kd x m told), .d v] S = if thingB m v then .ok (.d .non) S else .exc (x.c c_BadThing) [] S := by
  have hf := is_from_ok (T := T) (x := x) (n := n) (S := S) (lo := 0) (hi := (m : Int) - 1) (H.sub (by simp)) ho
  rw [call_def (H.at (by simp)) rfl]
  have hc : tst (ev (T.g (callN T (n + 2))) (.or (.not (.call (x.f n_is_from) (.cons false (.var 1) (.cons false (.k (.int (0))) (.cons false (.op .sub (.fld (x.c c_Kind) 0 (.var 0)) (.k (.int (1)))) .nil))))) (.op .eq (.fld (x.c c_Kind) 0 (.var 0)) (.k (.int (1))))) [some (.d (Kd x m told)), some (.d v)] S) = .ok (!thingB m v) S := by
    have e : (!thingB m v) = (!fromB 0 ((m : Int) - 1) v || (m == 1)) := by
      unfold thingB
      cases fromB 0 ((m : Int) - 1) v <;> simp
    rw [e]
    refine tst_or' (tst_not' (tst_of (by simp [hf]))) fun _ => ?_
    have e2 : ((m : Int) == 1) = (m == 1) := by
      rw [Bool.eq_iff_iff, beq_iff_eq, beq_iff_eq]
      omega
    rw [← e2]
    simp
  cases hb : thingB m v with
  | true =>
    rw [if_pos rfl]
    refine run_nx (ρ' := [some (.d (Kd x m told)), some (.d v)]) rfl ?_
    show exs _ (b_check_thing x) [some (.d (Kd x m told)), some (.d v)] S = _
    rw [hb] at hc
    unfold b_check_thing
    rw [exs_cons, ex_ite, hc]
    simp
  | false =>
    rw [if_neg (by simp)]
    refine run_exc (ρ' := [some (.d (Kd x m told)), some (.d v)]) rfl ?_
    show exs _ (b_check_thing x) [some (.d (Kd x m told)), some (.d v)] S = _
    rw [hb] at hc
    unfold b_check_thing
    rw [exs_cons, ex_ite, hc]
    simp
def nKind : List Nat := [n_is_integer, n_is_from, n_is_rising, n_Kind___init__]
theorem Lots.told_small {m : Nat} {ls : List (List Int)} (h : Lots m ls) {l : List Int} (hl : l ∈ sortL ls) : l.length < 1000 := by
  have := h.small (mem_sortL.mp hl); omega
theorem ev_wocomp (H : Hs T x [n_without_thing, n_closed_up]) {m : Nat} {ls : List (List Int)} {t : Int} (h : Lots m ls) {b : Bool} :
    ev (T.g (callN T (n + 2))) (.bi .tuple (.cons false (.comp (.call (x.f n_closed_up) (.cons false (.var 2) (.cons false (.var 1) .nil))) (.one 2) (.e (.fld (x.c c_Kind) 1 (.var 0))) (.yes (.op (if b then .mem else .nmem) (.var 1) (.var 2))) [2]) .nil)) [some (.d (Kd x m (sortL ls))), some (.d (.int t)), none] S =
      .ok (.d (.tup ((if b then beL (sortL ls) t else woL (sortL ls) t).map Lo))) S := by
  refine ev_tuple1 ?_
  have hlen := h.len
  rw [ev_compM (sortL ls) Lo (fun l => if b then decide (t ∈ l) else !decide (t ∈ l)) (fun l => Lo (closeT t l)) (by simp) (lt_lim (by rw [len_sortL]; omega)) fun l hl => ⟨_, rfl, fun S' => ⟨?_, fun _ => ⟨.d (Lo (closeT t l)), by simp [wipe, closed_up_ok (H.sub (by simp)) (h.told_small hl)], rfl⟩⟩⟩]
  · cases b <;> simp [woL, beL, Function.comp_def]
  · cases b <;> simp [wipe]
theorem without_bad (H : Hs T x [n_is_integer, n_is_from, n_check_thing, n_without]) {m : Nat} {told : List (List Int)} {v : D} (ho : objOk x.obs v = true) (hv : thingB m v = false) : callN T (n + 4) (x.f n_without) [.d (Kd x m told), .d v] S = .exc (x.c c_BadThing) [] S := by
  have hc := check_thing_ok (T := T) (x := x) (n := n) (S := S) (m := m) (told := told) (H.sub (by simp)) ho
  rw [hv, if_neg (by simp)] at hc
  rw [call_def (H.at (by simp)) rfl]
  refine run_exc (ρ' := [some (.d (Kd x m told)), some (.d v), none]) rfl ?_
  show exs _ (b_without x) [some (.d (Kd x m told)), some (.d v), none] S = _
  unfold b_without
  simp [hc]
theorem without_ok' (H : Hs T x (nKind ++ [n_check_thing, n_without_thing, n_closed_up, n_without])) (V : Env T x) {m : Nat} {ls : List (List Int)} {t : Int} (h : Lots m ls) (h0 : 0 ≤ t) (h1 : t < (m : Int)) (h2 : m ≠ 1) :
    callN T (n + 5) (x.f n_without) [.d (Kd x m (sortL ls)), .d (.int t)] S = .ok (.new (.inst (x.c c_Kind) [.int ((m - 1 : Nat) : Int), .tup ((sortL (woL ls t)).map Lo)])) S := by
  have hc := check_thing_ok (T := T) (x := x) (n := n + 1) (S := S) (m := m) (told := sortL ls) (v := .int t) (H.sub (by simp [nKind])) rfl
  have hb : thingB m (.int t) = true := by
    simp [thingB, fromB, h2, h0]; omega
  rw [hb, if_pos rfl] at hc
  rw [call_def (H.at (by simp [nKind])) rfl]
  refine run_new rfl ?_
  show exs _ (b_without x) [some (.d (Kd x m (sortL ls))), some (.d (.int t)), none] S = _
  unfold b_without
  refine exs_step (Q := (· = _)) (ρ1 := [some (.d (Kd x m (sortL ls))), some (.d (.int t)), none]) (S1 := S) ?_ (exs_ret ?_)
  · simp [hc]
  · have hw := ev_wocomp (T := T) (x := x) (n := n + 2) (S := S) (t := t) (b := false) (H.sub (by simp [nKind])) h
    rw [← wo_sort]
    have hm := h.hm
    exact ev_kind (n := n) (H.sub (by simp [nKind])) V (lots_wo h.sort h0 h1 h2) (by simp; omega) hw
end
end PL
set_option linter.all false
set_option Elab.async false
set_option maxRecDepth 100000
set_option maxHeartbeats 1000000
namespace PL
open MI PB
section
variable {T : Txt} {x : Ix} {n : Nat} {S S1 S2 : Sto} {g : G} {ρ ρ1 : Rho} {α β : Type}
theorem compL_M {f : D → Sto → R Unit} (c : β → D) (e : β → List D) {k : Nat} : ∀ (ys : List β) (acc : List D), (∀ b ∈ ys, (e b).length ≤ k) → acc.length + ys.length * k < lim → (∀ b ∈ ys, ∀ acc, acc.length + k < lim → f (c b) (S ++ [.lst acc]) = .ok () (S ++ [.lst (acc ++ e b)])) →
    compL f (fun _ => true) (ys.map c) (S ++ [.lst acc]) = .ok () (S ++ [.lst (acc ++ ys.flatMap e)])
  | [], acc, _, _, _ => by simp [compL]
  | b :: ys, acc, hk, hl, h => by
    have hb := hk b List.mem_cons_self
    rw [List.length_cons, Nat.succ_mul] at hl
    rw [List.map_cons]
    unfold compL
    rw [if_pos rfl, h b List.mem_cons_self acc (by omega)]
    dsimp only
    rw [compL_M c e ys _ (fun b hb => hk b (List.mem_cons_of_mem _ hb)) (by rw [List.length_append]; omega) fun b hb => h b (List.mem_cons_of_mem _ hb)]
    simp
theorem flat1 {f : α → β} : ∀ l : List α, l.flatMap (fun a => [f a]) = l.map f
  | [] => rfl
  | a :: l => by rw [List.flatMap_cons, flat1 l]; rfl
/-- tuple(x) of a list in a slot -/
theorem ev_tuple1' {a : E} {xs : List D} (h : ev g a ρ S = .ok (.d (.lst xs)) S1) : ev g (.bi .tuple (.cons false a .nil)) ρ S = .ok (.d (.tup xs)) S1 := by
  rw [ev_bi, evh_cons, h]; simp
/-- [elt for a in xs for b in ys] -/
theorem ev_comp2N {elt : E} {tg tg2 : Tg} {it it2 : MI.I} {own own2 : List Nat} (xs : List α) (ys : List β) (c : α → D) (c2 : β → D) (e : α → β → D) (hi : evI g it ρ S = .ok ⟨xs.map c, none⟩ S) (hl : xs.length ≤ 100) (hl2 : ys.length ≤ 100)
    (h : ∀ a ∈ xs, ∃ ρ1, bindT (wipe ρ own) tg (c a) = some ρ1 ∧ (∀ S', evI g it2 ρ1 S' = .ok ⟨ys.map c2, none⟩ S') ∧ ∀ b ∈ ys, ∃ ρ2, bindT (wipe ρ1 own2) tg2 (c2 b) = some ρ2 ∧ ∀ S', ∃ v, ev g elt ρ2 S' = .ok v S' ∧ v.data = some (e a b)) :
    ev g (.comp2 elt tg it tg2 it2 .no own own2) ρ S = .ok (.new (.lst (xs.flatMap fun a => ys.map (e a)))) S := by
  rw [ev, hi, bind_ok, still_none']
  have hx : xs.length * ys.length ≤ 10000 := Nat.le_trans (Nat.mul_le_mul hl hl2) (by decide)
  rw [compL_M c (fun a => ys.map (e a)) (k := ys.length) xs [] (fun a _ => by simp) (by rw [List.length_nil, Nat.zero_add]; exact lt_lim (by omega)) fun a ha acc hacc => ?_]
  · rw [bind_ok, out_last]; rfl
  · obtain ⟨ρ1, h1, h2, h3⟩ := h a ha
    unfold compW
    rw [h1]
    dsimp only
    rw [h2, bind_ok, still_none']
    have q := compL_M (S := S) (f := compW (wipe ρ1 own2) tg2 (compTn (evO g .no) (ev g elt) S.length)) c2 (fun b => [e a b]) (k := 1) ys acc (fun _ _ => by simp) (by omega) fun b hb acc hacc => by
      obtain ⟨ρ2, h4, h5⟩ := h3 b hb
      unfold compW
      rw [h4]
      dsimp only
      unfold compTn
      obtain ⟨v, h6, h7⟩ := h5 (S ++ [.lst acc])
      rw [evO_no, bind_ok, if_pos rfl, h6, bind_ok, h7, of_some, bind_ok]
      exact push_last (by omega)
    rw [show ys.flatMap (fun b => [e a b]) = ys.map (e a) from flat1 ys] at q
    exact q
theorem nmem_1 {t : Int} {ls : List (List Int)} : opD .nmem (.tup [.int t]) (.tup (ls.map Lo)) = some (.d (.bl (!decide ([t] ∈ ls)))) := nmem_T (a := [t])
theorem beside_bad (H : Hs T x [n_is_integer, n_is_from, n_check_thing, n_beside]) {m : Nat} {told : List (List Int)} {v : D} (ho : objOk x.obs v = true) (hv : thingB m v = false) : callN T (n + 4) (x.f n_beside) [.d (Kd x m told), .d v] S = .exc (x.c c_BadThing) [] S := by
  have hc := check_thing_ok (T := T) (x := x) (n := n) (S := S) (m := m) (told := told) (H.sub (by simp)) ho
  rw [hv, if_neg (by simp)] at hc
  rw [call_def (H.at (by simp)) rfl]
  refine run_exc (ρ' := [some (.d (Kd x m told)), some (.d v), none]) rfl ?_
  show exs _ (b_beside x) [some (.d (Kd x m told)), some (.d v), none] S = _
  unfold b_beside
  simp [hc]
theorem thing_ok {m : Nat} {t : Int} (h0 : 0 ≤ t) (h1 : t < (m : Int)) (h2 : m ≠ 1) : thingB m (.int t) = true := by
  simp [thingB, fromB, h2, h0]; omega
theorem beside_bad2 (H : Hs T x [n_is_integer, n_is_from, n_check_thing, n_beside]) {m : Nat} {told : List (List Int)} {t : Int} (h0 : 0 ≤ t) (h1 : t < (m : Int)) (h2 : m ≠ 1) (h3 : [t] ∉ told) : callN T (n + 4) (x.f n_beside) [.d (Kd x m told), .d (.int t)] S = .exc (x.c c_BadThing) [] S := by
  have hc := check_thing_ok (T := T) (x := x) (n := n) (S := S) (m := m) (told := told) (v := .int t) (H.sub (by simp)) rfl
  rw [thing_ok h0 h1 h2, if_pos rfl] at hc
  rw [call_def (H.at (by simp)) rfl]
  refine run_exc (ρ' := [some (.d (Kd x m told)), some (.d (.int t)), none]) rfl ?_
  show exs _ (b_beside x) [some (.d (Kd x m told)), some (.d (.int t)), none] S = _
  unfold b_beside
  simp [hc, nmem_1, h3]
theorem beside_ok (H : Hs T x (nKind ++ [n_check_thing, n_without_thing, n_closed_up, n_beside])) (V : Env T x) {m : Nat} {ls : List (List Int)} {t : Int} (h : Lots m ls) (h0 : 0 ≤ t) (h1 : t < (m : Int)) (h2 : m ≠ 1) (h3 : [t] ∈ ls) :
    callN T (n + 5) (x.f n_beside) [.d (Kd x m (sortL ls)), .d (.int t)] S = .ok (.new (.inst (x.c c_Kind) [.int ((m - 1 : Nat) : Int), .tup ((sortL (beL ls t)).map Lo)])) S := by
  have hc := check_thing_ok (T := T) (x := x) (n := n + 1) (S := S) (m := m) (told := sortL ls) (v := .int t) (H.sub (by simp [nKind])) rfl
  rw [thing_ok h0 h1 h2, if_pos rfl] at hc
  rw [call_def (H.at (by simp [nKind])) rfl]
  refine run_new rfl ?_
  show exs _ (b_beside x) [some (.d (Kd x m (sortL ls))), some (.d (.int t)), none] S = _
  unfold b_beside
  have h3' : [t] ∈ sortL ls := mem_sortL.mpr h3
  refine exs_step (Q := (· = _)) (ρ1 := [some (.d (Kd x m (sortL ls))), some (.d (.int t)), none]) (S1 := S) ?_ (exs_ifr (Q := (· = _)) (b := false) ?_ (fun z => by cases z) fun _ => exs_ret ?_)
  · simp [hc]
  · simp [nmem_1, h3']
  · have hw := ev_wocomp (T := T) (x := x) (n := n + 2) (S := S) (t := t) (b := true) (H.sub (by simp [nKind])) h
    rw [← be_sort]
    have hm := h.hm
    exact ev_kind (n := n) (H.sub (by simp [nKind])) V (lots_be h.sort h0 h1 h2 h3') (by simp; omega) hw
theorem cut_bad (H : Hs T x [n_is_integer, n_is_from, n_cut]) (V : Env T x) {m : Nat} {told : List (List Int)} {v : D} (ho : objOk x.obs v = true) (hv : fromB 0 5 v = false) : callN T (n + 3) (x.f n_cut) [.d (Kd x m told), .d v] S = .exc (x.c c_BadMost) [] S := by
  have hf := is_from_ok (T := T) (x := x) (n := n) (S := S) (lo := 0) (hi := 5) (H.sub (by simp)) ho
  rw [hv] at hf
  rw [call_def (H.at (by simp)) rfl]
  refine run_exc (ρ' := [some (.d (Kd x m told)), some (.d v), none]) rfl ?_
  show exs _ (b_cut x) [some (.d (Kd x m told)), some (.d v), none] S = _
  unfold b_cut
  simp [hf, V.most]
theorem cut_ok (H : Hs T x (nKind ++ [n_cut])) (V : Env T x) {m : Nat} {ls : List (List Int)} {k : Int} (h : Lots m ls) (h0 : 0 ≤ k) (h1 : k ≤ 5) :
    callN T (n + 5) (x.f n_cut) [.d (Kd x m (sortL ls)), .d (.int k)] S = .ok (.new (.inst (x.c c_Kind) [.int m, .tup ((sortL (cutL ls k)).map Lo)])) S := by
  have hf := is_from_ok (T := T) (x := x) (n := n + 2) (S := S) (lo := 0) (hi := 5) (v := .int k) (H.sub (by simp [nKind])) rfl
  rw [isFrom_i h0 h1] at hf
  have hlen := h.len
  rw [call_def (H.at (by simp [nKind])) rfl]
  refine run_new rfl ?_
  show exs _ (b_cut x) [some (.d (Kd x m (sortL ls))), some (.d (.int k)), none] S = _
  unfold b_cut
  refine exs_ifr (Q := (· = _)) (b := false) ?_ (fun z => by cases z) fun _ => exs_ret ?_
  · simp [hf, V.most]
  · rw [← cut_sort]
    refine ev_kind (n := n) (H.sub (by simp [nKind])) V (lots_cut h.sort h0) (by simp) (ev_tuple1 (ev_compM (sortL ls) Lo (fun l => decide ((l.length : Int) ≤ k)) Lo (by simp) (lt_lim (by rw [len_sortL]; omega)) fun l hl => ⟨_, rfl, fun S' => ⟨by simp [wipe], fun _ => by simp [wipe]⟩⟩))
theorem joined_bad (H : Hs T x [n_joined]) (V : Env T x) {m k : Nat} {told told2 : List (List Int)} (h : 5 < m + k) : callN T (n + 1) (x.f n_joined) [.d (Kd x m told), .d (Kd x k told2)] S = .exc (x.c c_TooMany) [] S := by
  rw [call_def (H.at (by simp)) rfl]
  refine run_exc (ρ' := [some (.d (Kd x m told)), some (.d (Kd x k told2)), none, none, none, none]) rfl ?_
  show exs _ (b_joined x) [some (.d (Kd x m told)), some (.d (Kd x k told2)), none, none, none, none] S = _
  unfold b_joined
  have : (5 : Int) < (m : Int) + (k : Int) := by omega
  simp [V.most, this]
theorem joined_ok (H : Hs T x (nKind ++ [n_joined])) (V : Env T x) {m k : Nat} {ls os : List (List Int)} (h : Lots m ls) (ho : Lots k os) (hk : m + k ≤ 5) :
    callN T (n + 5) (x.f n_joined) [.d (Kd x m (sortL ls)), .d (Kd x k (sortL os))] S = .ok (.new (.inst (x.c c_Kind) [.int ((m + k : Nat) : Int), .tup ((sortL (joinL m ls os)).map Lo)])) S := by
  have hl1 := h.len
  have hl2 := ho.len
  rw [call_def (H.at (by simp [nKind])) rfl]
  refine run_new rfl ?_
  show exs _ (b_joined x) [some (.d (Kd x m (sortL ls))), some (.d (Kd x k (sortL os))), none, none, none, none] S = _
  unfold b_joined
  have hn : ¬ (5 : Int) < (m : Int) + (k : Int) := by omega
  refine exs_ifr (Q := (· = _)) (b := false) ?_ (fun z => by cases z) fun _ => ?_
  · simp [V.most, hn]
  refine set_lst (Q := (· = _)) (xs := (joinL m (sortL ls) (sortL os)).map Lo) ?_ (exs_ret ?_)
  · rw [ev_comp2N (sortL ls) (sortL os) Lo Lo (fun l o => Lo (l ++ shiftL m o)) (by simp) (by rw [len_sortL]; omega) (by rw [len_sortL]; omega) fun l hl => ⟨_, rfl, fun S' => by simp [wipe], fun o ho' => ⟨_, rfl, fun S' => ⟨.d (Lo (l ++ shiftL m o)), ?_, rfl⟩⟩⟩]
    · unfold joinL
      rw [List.map_flatMap]
      simp [Function.comp_def]
    · have h1 := h.told_small hl
      have h2 := ho.told_small ho'
      have hs : (shiftL m o).length = o.length := by unfold shiftL; simp
      refine ev_op' (v := .d (Lo l)) (v' := .d (Lo l)) (w := .d (Lo (shiftL m o))) (by simp [wipe]) rfl (ev_tuple1 (xs := (shiftL m o).map .int) ?_) ?_
      · rw [ev_compM o D.int (fun _ => true) (fun i => D.int (i + (m : Int))) (by simp [wipe]) (lt_lim (by omega)) fun i hi => ⟨_, rfl, fun S' => ⟨evO_no, fun _ => ⟨.d (.int (i + (m : Int))), by simp [wipe], rfl⟩⟩⟩]
        rw [List.filter_eq_self.mpr (fun _ _ => rfl)]
        unfold shiftL
        rw [List.map_map]
        rfl
      · rw [op_Lo, add_Lo (le_lim (by omega))]; rfl
  · rw [← join_sort]
    exact ev_kind (n := n) (H.sub (by simp [nKind])) V (lots_join h.sort ho.sort hk) (by simp) (ev_tuple1' (by simp))
end
end PL
set_option linter.all false
set_option Elab.async false
set_option maxRecDepth 100000
set_option maxHeartbeats 1000000
namespace PL
open MI PB
section
variable {T : Txt} {x : Ix} {n : Nat} {S S1 S2 : Sto} {g : G} {ρ ρ1 : Rho}
theorem l_less_ok (H : Hs T x [n_l_less]) {l : List Int} {t : Int} (hl : l.length < 1000) : callN T (n + 1) (x.f n_l_less) [.d (Lo l), .d (.int t)] S = .ok (.d (Lo (closeT t l))) S := by
  rw [call_def (H.at (by simp)) rfl]
  refine run_d rfl ?_
  show exs _ (b_l_less x) [some (.d (Lo l)), some (.d (.int t)), none] S = _
  refine exs_ret (ev_tuple1 ?_)
  rw [ev_compM l D.int (fun i => !(i == t)) (fun i => D.int (if i < t then i else i - 1)) (by simp) (lt_lim (by omega)) fun i hi => ⟨_, rfl, fun S' => ⟨by simp [wipe], fun _ => ⟨.d (.int (if i < t then i else i - 1)), ?_, rfl⟩⟩⟩]
  · unfold closeT withoutT
    rw [List.map_map]
    congr 3
    refine List.map_congr_left fun i hi => ?_
    have h2 := (List.mem_filter.mp hi).2
    have h3 : i ≠ t := by simpa using h2
    show D.int _ = D.int (dn t i)
    congr 1
    unfold dn
    split <;> split <;> omega
  · by_cases h : i < t
    · simp [wipe, h]
    · simp [wipe, h]
/-- tuple(sorted([less(lot, thing) for lot in lots if ..])) -/
theorem ev_due (H : Hs T x [n_l_less]) {m : Nat} {ls : List (List Int)} {t : Int} (h : Lots m ls) {b : Bool} {a0 a1 a4 : Option RV} :
    ev (T.g (callN T (n + 1))) (.bi .tuple (.cons false (.bi .sorted (.cons false (.comp (.call (x.f n_l_less) (.cons false (.var 5) (.cons false (.var 3) .nil))) (.one 5) (.e (.var 2)) (.yes (.op (if b then .mem else .nmem) (.var 3) (.var 5))) [5]) .nil)) .nil)) [a0, a1, some (.d (.tup (ls.map Lo))), some (.d (.int t)), a4, none] S =
      .ok (.d (.tup ((sortL (if b then beL ls t else woL ls t)).map Lo))) S := by
  refine ev_tuple1 ?_
  have hlen := h.len
  have hc := ev_compM (g := T.g (callN T (n + 1))) (ρ := [a0, a1, some (.d (.tup (ls.map Lo))), some (.d (.int t)), a4, none]) (S := S) (elt := .call (x.f n_l_less) (.cons false (.var 5) (.cons false (.var 3) .nil))) (tg := .one 5) (it := .e (.var 2)) (ifs := .yes (.op (if b then .mem else .nmem) (.var 3) (.var 5))) (own := [5]) ls Lo (fun l => if b then decide (t ∈ l) else !decide (t ∈ l)) (fun l => Lo (closeT t l)) (by simp) (lt_lim (by omega)) fun l hl => ⟨_, rfl, fun S' => ⟨by cases b <;> simp [wipe], fun _ => ⟨.d (Lo (closeT t l)), by
    have := h.small hl
    simp [wipe, l_less_ok (H.sub (by simp)) (show l.length < 1000 by omega)], rfl⟩⟩⟩
  have e : (ls.filter (fun l => if b then decide (t ∈ l) else !decide (t ∈ l))).map (fun l => Lo (closeT t l)) = (if b then beL ls t else woL ls t).map Lo := by
    cases b <;> simp [woL, beL, Function.comp_def]
  rw [e] at hc
  rw [ev_bi, evh_cons, hc]
  simp
theorem exs_itn {c : E} {a d r : Ss} {b : Bool} {Q : MI.X → Prop} (hc : tst (ev g c ρ S) = .ok b S) (ka : b = true → exs g a ρ S = .nx ρ1 S1) (kb : b = false → exs g d ρ S = .nx ρ1 S1) (k : Q (exs g r ρ1 S1)) : Q (exs g (.cons (.ite c a d) r) ρ S) := by
  rw [exs_cons, ex_ite, hc, then_ok]
  cases b with
  | true => rw [if_pos rfl, ka rfl]; exact k
  | false => rw [if_neg (by simp), kb rfl]; exact k
/-! what is refused -/
def sThing : List Nat := [116, 104, 105, 110, 103]
def sMost : List Nat := [109, 111, 115, 116]
def sMany : List Nat := [109, 97, 110, 121]
def sWithout : List Nat := [119, 105, 116, 104, 111, 117, 116]
def sBeside : List Nat := [98, 101, 115, 105, 100, 101]
def sCut : List Nat := [99, 117, 116]
def sJoined : List Nat := [106, 111, 105, 110, 101, 100]
def nErr : List Nat := [c_BadThing, c_BadMost, c_TooMany]
theorem told_k10 (H : Hs T x [n_l_told_k10]) (X : Exs T x nErr) {w : List Nat} {k v : D} {f c : Nat} {s : List Nat}
    (hw : (w = sWithout ∧ f = n_without) ∨ (w = sBeside ∧ f = n_beside) ∨ (w = sCut ∧ f = n_cut) ∨ (w = sJoined ∧ f = n_joined))
    (hc : (c = c_BadThing ∧ s = sThing) ∨ (c = c_BadMost ∧ s = sMost) ∨ (c = c_TooMany ∧ s = sMany))
    (hf : callN T n (x.f f) [.d k, .d v] S = .exc (x.c c) [] S) : callN T (n + 1) (x.f n_l_told_k10) [.d (.str w), .d k, .d v] S = .ok (.d (.str s)) S := by
  rw [call_def (H.at (by simp)) rfl]
  refine run_d rfl ?_
  show exs _ (b_l_told_k10 x) [some (.d (.str w)), some (.d k), some (.d v), none] S = _
  unfold b_l_told_k10
  have x1 := X.lt c_BadThing (by simp [nErr])
  have x2 := X.lt c_BadMost (by simp [nErr])
  have x3 := X.lt c_TooMany (by simp [nErr])
  have y11 := X.sub c_BadThing (by simp [nErr]) c_BadThing (by simp [nErr])
  have y21 := X.sub c_BadMost (by simp [nErr]) c_BadThing (by simp [nErr])
  have y22 := X.sub c_BadMost (by simp [nErr]) c_BadMost (by simp [nErr])
  have y31 := X.sub c_TooMany (by simp [nErr]) c_BadThing (by simp [nErr])
  have y32 := X.sub c_TooMany (by simp [nErr]) c_BadMost (by simp [nErr])
  have y33 := X.sub c_TooMany (by simp [nErr]) c_TooMany (by simp [nErr])
  have op_s : ∀ (o : Op) (i : List Nat) (y : D), opR (T.g (callN T n)) o (.d (.str i)) (.d y) S = R.of (opD o (.str i) y) S := fun _ _ _ => rfl
  have e1 : opD .eq (.str sWithout) (.str [119, 105, 116, 104, 111, 117, 116]) = some (.d (.bl true)) := rfl
  have e2 : opD .eq (.str sBeside) (.str [119, 105, 116, 104, 111, 117, 116]) = some (.d (.bl false)) := rfl
  have e3 : opD .eq (.str sBeside) (.str [98, 101, 115, 105, 100, 101]) = some (.d (.bl true)) := rfl
  have e4 : opD .eq (.str sCut) (.str [119, 105, 116, 104, 111, 117, 116]) = some (.d (.bl false)) := rfl
  have e5 : opD .eq (.str sCut) (.str [98, 101, 115, 105, 100, 101]) = some (.d (.bl false)) := rfl
  have e6 : opD .eq (.str sCut) (.str [99, 117, 116]) = some (.d (.bl true)) := rfl
  have e7 : opD .eq (.str sJoined) (.str [119, 105, 116, 104, 111, 117, 116]) = some (.d (.bl false)) := rfl
  have e8 : opD .eq (.str sJoined) (.str [98, 101, 115, 105, 100, 101]) = some (.d (.bl false)) := rfl
  have e9 : opD .eq (.str sJoined) (.str [99, 117, 116]) = some (.d (.bl false)) := rfl
  have gi : (T.g (callN T n)).init = T.init := rfl
  have gs : (T.g (callN T n)).sub = T.sub := rfl
  rcases hc with ⟨rfl, rfl⟩ | ⟨rfl, rfl⟩ | ⟨rfl, rfl⟩ <;> rcases hw with ⟨rfl, rfl⟩ | ⟨rfl, rfl⟩ | ⟨rfl, rfl⟩ | ⟨rfl, rfl⟩ <;>
    simp [hf, op_s, e1, e2, e3, e4, e5, e6, e7, e8, e9, x1, x2, x3, y11, y21, y22, y31, y32, y33, catchX, haX, hxV, clear] <;> rfl
theorem ne_s {s : List Nat} (h : cpOk s = true) : opD .ne (.str s) (.str s) = some (.d (.bl false)) := by
  show (seqEq (.str s) (.str s)).map _ = _
  have hp : (D.str s).plain 60 = true := by unfold D.plain; exact h
  rw [seqEq_p hp hp]
  simp [D.eqv]
theorem told_ne (H : Hs T x [n_l_told_k10]) (X : Exs T x nErr) {w : List Nat} {k v : D} {f c : Nat} {s : List Nat} {a b : E}
    (hw : (w = sWithout ∧ f = n_without) ∨ (w = sBeside ∧ f = n_beside) ∨ (w = sCut ∧ f = n_cut) ∨ (w = sJoined ∧ f = n_joined))
    (hc : (c = c_BadThing ∧ s = sThing) ∨ (c = c_BadMost ∧ s = sMost) ∨ (c = c_TooMany ∧ s = sMany))
    (hf : callN T n (x.f f) [.d k, .d v] S = .exc (x.c c) [] S) (ha : ev (T.g (callN T (n + 1))) a ρ S = .ok (.d k) S) (hb : ev (T.g (callN T (n + 1))) b ρ S = .ok (.d v) S) :
    ev (T.g (callN T (n + 1))) (.op .ne (.call (x.f n_l_told_k10) (.cons false (.k (.str w)) (.cons false a (.cons false b .nil)))) (.k (.str s))) ρ S = .ok (.d (.bl false)) S := by
  have ht := told_k10 H X hw hc hf
  have hs : cpOk s = true := by rcases hc with ⟨_, rfl⟩ | ⟨_, rfl⟩ | ⟨_, rfl⟩ <;> rfl
  refine ev_op' (v := .d (.str s)) (v' := .d (.str s)) (w := .d (.str s)) ?_ rfl (by simp) ?_
  · rw [ev_call, evh_cons, ev_k, bind_ok, hand_d, of_some, bind_ok, evh_cons, ha, bind_ok, hand_d, of_some, bind_ok, evh_cons, hb, bind_ok, hand_d, of_some, bind_ok, evh_nil]
    exact ht
  · show R.of (opD .ne (.str s) (.str s)) S = _
    rw [ne_s hs]; rfl
def nK10p : List Nat := nKind ++ [n_Kind_things, n_Kind_lots, n_check_thing, n_without_thing, n_closed_up, n_without, n_beside, n_cut, n_joined]
/-- not (equal(kind.lots, due)) or kind.things != due -/
theorem kind_check (Hq : Hs T x [n_l_equal]) (Hk : Hs T x [n_Kind_things, n_Kind_lots]) {a e e2 : E} {m : Nat} {ls : List (List Int)} {j : Int} (h : Lots m ls) (hj : j = (m : Int))
    (ha : ev (T.g (callN T (n + 3))) a ρ S = .ok (.new (.inst (x.c c_Kind) [.int m, .tup ((sortL ls).map Lo)])) S ∨ ev (T.g (callN T (n + 3))) a ρ S = .ok (.d (Kd x m (sortL ls))) S) (he : ev (T.g (callN T (n + 3))) e ρ S = .ok (.d (.tup ((sortL ls).map Lo))) S) (he2 : ev (T.g (callN T (n + 3))) e2 ρ S = .ok (.d (.int j)) S) :
    tst (ev (T.g (callN T (n + 3))) (.or (.not (.call (x.f n_l_equal) (.cons false (.prop (x.c c_Kind) (x.f n_Kind_lots) a) (.cons false e .nil)))) (.op .ne (.prop (x.c c_Kind) (x.f n_Kind_things) a) e2)) ρ S) = .ok false S := by
  obtain ⟨v, hv, hh⟩ : ∃ v, ev (T.g (callN T (n + 3))) a ρ S = .ok v S ∧ v.hand = some (.d (Kd x m (sortL ls))) := by
    rcases ha with ha | ha
    · exact ⟨_, ha, rfl⟩
    · exact ⟨_, ha, rfl⟩
  have h1 := ev_lots (T := T) (x := x) (n := n + 2) (Hk.sub (by simp)) hv hh
  have h2 := ev_things (T := T) (x := x) (n := n + 2) (Hk.sub (by simp)) hv hh
  have hq := check (g := T.g (callN T (n + 3))) (fe := x.f n_l_equal) h1 he (equal_ok (T := T) (x := x) (n := n) Hq 2 h.eqa S)
  refine tst_or' (p := false) (q := false) hq fun _ => tst_of (ev_op' (v := .d (.int m)) h2 rfl he2 ?_)
  subst hj
  simp
theorem thing_bad1 {v : D} : thingB 1 v = false := by simp [thingB]
theorem lessened_ok (H : Hs T x (nK10p ++ [n_l_equal, n_l_less, n_l_told_k10, n_l_lessened])) (V : Env T x) (X : Exs T x nErr) {m : Nat} {ls : List (List Int)} (h : Lots m ls) :
    callN T (n + 7) (x.f n_l_lessened) [.d (Kd x m (sortL ls)), .d (.int m), .d (.tup (ls.map Lo))] S = .ok (.d (.bl true)) S := by
  have h1 := h.hm
  have h5 := h.hm5
  rw [call_def (H.at (by simp)) rfl]
  refine run_d rfl ?_
  show exs _ (b_l_lessened x) [some (.d (Kd x m (sortL ls))), some (.d (.int m)), some (.d (.tup (ls.map Lo))), none, none, none] S = _
  unfold b_l_lessened
  refine exs_loop (Q := fun X => X = .ret (.d (.bl true)) S) (fun dn ρ S' => S' = S ∧ ∃ a b, ρ = [some (.d (Kd x m (sortL ls))), some (.d (.int m)), some (.d (.tup (ls.map Lo))), a, b, none]) (rI m) D.int ?_ ⟨rfl, _, _, rfl⟩ ?_ ?_
  · exact evI_rI (by simp) (by omega)
  · rintro dn t rest ρ S' e ⟨rfl, a, b, rfl⟩
    obtain ⟨t0, t1⟩ := mem_rI.mp (show t ∈ rI m by rw [e]; simp)
    have hWo := fun (v : D) (hv : objOk x.obs v = true) (hb : thingB m v = false) => without_bad (T := T) (x := x) (n := n + 1) (S := S') (m := m) (told := sortL ls) (H.sub (by simp [nK10p, nKind])) hv hb
    have hBe := fun (v : D) (hv : objOk x.obs v = true) (hb : thingB m v = false) => beside_bad (T := T) (x := x) (n := n + 1) (S := S') (m := m) (told := sortL ls) (H.sub (by simp [nK10p, nKind])) hv hb
    by_cases hm : m = 1
    · subst hm
      refine ⟨_, _, exs_itn (Q := fun Y => Y = MI.X.nx _ _) (ρ1 := [some (.d (Kd x 1 (sortL ls))), some (.d (.int (1 : Nat))), some (.d (.tup (ls.map Lo))), some (.d (.int t)), b, none]) (S1 := S') (b := true) (by simp) (fun _ => ?_) (fun z => by cases z) exs_nil, rfl, some (.d (.int t)), b, rfl⟩
      refine exs_ifr (Q := fun Y => Y = MI.X.nx _ _) (b := false) ?_ (fun z => by cases z) fun _ => exs_nil
      refine tst_or' (p := false) (q := false) (tst_of ?_) fun _ => tst_of ?_
      · exact told_ne (n := n + 5) (f := n_without) (v := .int 0) (H.sub (by simp)) X (.inl ⟨rfl, rfl⟩) (.inl ⟨rfl, rfl⟩) (hWo (.int 0) rfl thing_bad1) (by simp) (by simp)
      · exact told_ne (n := n + 5) (f := n_beside) (v := .int 0) (H.sub (by simp)) X (.inr (.inl ⟨rfl, rfl⟩)) (.inl ⟨rfl, rfl⟩) (hBe (.int 0) rfl thing_bad1) (by simp) (by simp)
    · have hmi : ¬ (m : Int) = 1 := by omega
      refine ⟨_, _, exs_itn (Q := fun Y => Y = MI.X.nx _ _) (ρ1 := [some (.d (Kd x m (sortL ls))), some (.d (.int m)), some (.d (.tup (ls.map Lo))), some (.d (.int t)), some (.d (.tup ((sortL (beL ls t)).map Lo))), none]) (S1 := S') (b := false) (by simp [hmi]) (fun z => by cases z) (fun _ => ?_) exs_nil, rfl, some (.d (.int t)), _, rfl⟩
      refine set_val (Q := fun Y => Y = MI.X.nx _ _) (ev_due (n := n + 5) (b := false) (H.sub (by simp)) h) ?_
      refine exs_ifr (Q := fun Y => Y = MI.X.nx _ _) (b := false) ?_ (fun z => by cases z) fun _ => ?_
      · exact kind_check (n := n + 3) (H.sub (by simp)) (H.sub (by simp [nK10p])) (j := (m : Int) - 1) (lots_wo h t0 t1 hm) (by omega) (.inl (ev_call2 (v := .d (Kd x m (sortL ls))) (w := .d (.int t)) (S1 := S') (S2 := S') (by simp) rfl (by simp) rfl (without_ok' (n := n + 1) (H.sub (by simp [nK10p, nKind])) V h t0 t1 hm))) (by simp) (by simp)
      refine set_val (Q := fun Y => Y = MI.X.nx _ _) (ev_due (n := n + 5) (b := true) (H.sub (by simp)) h) ?_
      refine exs_itn (Q := fun Y => Y = MI.X.nx _ _) (b := !decide ([t] ∈ ls)) (by simp [nmem_1]) (fun hin => ?_) (fun hin => ?_) exs_nil
      · have hin : [t] ∉ ls := by simpa using hin
        refine exs_ifr (Q := fun Y => Y = MI.X.nx _ _) (b := false) ?_ (fun z => by cases z) fun _ => exs_nil
        exact tst_of (told_ne (n := n + 5) (f := n_beside) (v := .int t) (H.sub (by simp)) X (.inr (.inl ⟨rfl, rfl⟩)) (.inl ⟨rfl, rfl⟩) (beside_bad2 (n := n + 1) (H.sub (by simp [nK10p, nKind])) t0 t1 hm (fun z => hin (mem_sortL.mp z))) (by simp) (by simp))
      · have hin : [t] ∈ ls := by simpa using hin
        refine exs_ifr (Q := fun Y => Y = MI.X.nx _ _) (b := false) ?_ (fun z => by cases z) fun _ => exs_nil
        exact kind_check (n := n + 3) (H.sub (by simp)) (H.sub (by simp [nK10p])) (j := (m : Int) - 1) (lots_be h t0 t1 hm hin) (by omega) (.inl (ev_call2 (v := .d (Kd x m (sortL ls))) (w := .d (.int t)) (S1 := S') (S2 := S') (by simp) rfl (by simp) rfl (beside_ok (n := n + 1) (H.sub (by simp [nK10p, nKind])) V h t0 t1 hm hin))) (by simp) (by simp)
  · rintro ρ' S' ⟨rfl, a, b, rfl⟩
    exact exs_ret (by simp)
end
end PL
set_option linter.all false
set_option Elab.async false
set_option maxRecDepth 100000
set_option maxHeartbeats 1000000
namespace PL
open MI PB
section
variable {T : Txt} {x : Ix} {n : Nat} {S S1 S2 : Sto} {g : G} {ρ ρ1 : Rho}
def RetT (X : MI.X) : Prop := ∃ S', X = .ret (.d (.bl true)) S'
def dueL (m : Nat) (dn os : List (List Int)) : List (List Int) := dn.flatMap fun l => os.map fun o => l ++ shiftL m o
/-- the values that name no thing -/
def oddL (m : Int) : List D := [.non, .int (-1), .int m, .str [48], .bl true, .tup [.int 0]]
theorem odd_ok {m : Int} {v : D} (h : v ∈ oddL m) {obs : List Nat} : objOk obs v = true := by
  simp [oddL] at h
  rcases h with rfl | rfl | rfl | rfl | rfl | rfl <;> rfl
theorem odd_thing {m : Nat} {v : D} (h : v ∈ oddL m) : thingB m v = false := by
  simp [oddL] at h
  rcases h with rfl | rfl | rfl | rfl | rfl | rfl <;> simp [thingB, fromB]
  omega
theorem odd_most {v : D} (h : v ∈ oddL 6) : fromB 0 5 v = false := by
  simp [oddL] at h
  rcases h with rfl | rfl | rfl | rfl | rfl | rfl <;> simp [fromB]
def nK10 : List Nat := nK10p ++ [n_l_equal, n_l_less, n_l_told_k10, n_l_lessened, n_l_random, n_l_below, n_l_pick, n_l_parts, n_l_with, n_l_lots, n_law_k10]
theorem law_k10_ok (H : Hs T x nK10) (V : Env T x) (X : Exs T x nErr) {ns : List Int} (hl : ns.length ≤ 63) : ∃ S', callN T (n + 8) (x.f n_law_k10) [script ns] [] = .ok (.d (.bl true)) S' := by
  suffices q : RetT (exs (T.g (callN T (n + 7))) (b_law_k10 x) [some (script ns), none, none, none, none, none, none, none, none, none, none, none, none, none, none] []) by
    obtain ⟨S', q⟩ := q
    refine ⟨S'.take 0, ?_⟩
    rw [call_def (H.at (by simp [nK10, nK10p])) rfl]
    unfold runF
    rw [if_pos (by rfl)]
    have e' : exs (T.g (callN T (n + 7))) (d_law_k10 x).body (List.map some [script ns] ++ List.replicate ((d_law_k10 x).nn - (d_law_k10 x).np) none) [] = .ret (.d (.bl true)) S' := q
    rw [e']
    rfl
  obtain ⟨ds, hg, hr⟩ := random_ok (T := T) (x := x) (n := n + 6) (S := []) (H.sub (by simp [nK10, nK10p])) hl (salt := 1810) (by omega)
  have hr' : callN T (n + 7) (x.f n_l_random) [script ns, .d (.int 1810)] [] = .ok (.new (.lst (ds.map .int))) [] := hr
  have hS0 : Src [.lst (ds.map .int)] 0 := ⟨ds, rfl, hg⟩
  obtain ⟨r1, S1, a1, a2, a3, a4⟩ := below_nx (T := T) (x := x) (n := n + 6) (H.sub (by simp [nK10, nK10p])) hS0 (size := 5) (by omega) (by omega)
  obtain ⟨r2, S2, b1, b2, b3, b4⟩ := below_nx (T := T) (x := x) (n := n + 6) (H.sub (by simp [nK10, nK10p])) a3.src (size := 5) (by omega) (by omega)
  obtain ⟨m, hm, m1, m5⟩ : ∃ m : Nat, 1 + r1 = (m : Int) ∧ 1 ≤ m ∧ m ≤ 5 := ⟨(1 + r1).toNat, by omega, by omega, by omega⟩
  obtain ⟨k, hk, k1, k5⟩ : ∃ k : Nat, 1 + r2 = (k : Int) ∧ 1 ≤ k ∧ k ≤ 5 := ⟨(1 + r2).toNat, by omega, by omega, by omega⟩
  obtain ⟨ls, S3, hL, c3, c4⟩ := l_lots_ok (T := T) (x := x) (n := n + 4) (H.sub (by simp [nK10, nK10p])) b3.src m1 m5
  obtain ⟨os, S4, hO, d3, d4⟩ := l_lots_ok (T := T) (x := x) (n := n + 4) (H.sub (by simp [nK10, nK10p])) c3.src k1 k5
  have a4' : callN T (n + 7) (x.f n_l_below) [.r 0, .d (.int 5)] [.lst (ds.map .int)] = .ok (.d (.int r1)) S1 := a4
  have b4' : callN T (n + 7) (x.f n_l_below) [.r 0, .d (.int 5)] S1 = .ok (.d (.int r2)) S2 := b4
  have c4' : callN T (n + 7) (x.f n_l_lots) [.r 0, .d (.int m)] S2 = .ok (.d (.tup (ls.map Lo))) S3 := c4
  have d4' : callN T (n + 7) (x.f n_l_lots) [.r 0, .d (.int k)] S3 = .ok (.d (.tup (os.map Lo))) S4 := d4
  have hlen := hL.len
  have hlen2 := hO.len
  unfold b_law_k10
  refine exs_step (Q := RetT) (ρ1 := [some (script ns), some (.r 0), none, none, none, none, none, none, none, none, none, none, none, none, none]) (S1 := [.lst (ds.map .int)]) ?_ ?_
  · rw [ex_set, ev_call2 (S1 := []) (S2 := []) (v := script ns) (v' := script ns) (w := .d (.int 1810)) (w' := .d (.int 1810)) (by simp) rfl (by simp) rfl hr', then_ok]
    rfl
  refine exs_step (Q := RetT) (ρ1 := [some (script ns), some (.r 0), some (.d (.int m)), some (.d (.int k)), none, none, none, none, none, none, none, none, none, none, none]) (S1 := S2) ?_ ?_
  · simp [a4', b4', hm, hk]
  refine exs_step (Q := RetT) (ρ1 := [some (script ns), some (.r 0), some (.d (.int m)), some (.d (.int k)), some (.d (.tup (ls.map Lo))), some (.d (.tup (os.map Lo))), none, none, none, none, none, none, none, none, none]) (S1 := S4) ?_ ?_
  · simp [c4', d4']
  refine exs_step (Q := RetT) (ρ1 := [some (script ns), some (.r 0), some (.d (.int m)), some (.d (.int k)), some (.d (.tup (ls.map Lo))), some (.d (.tup (os.map Lo))), some (.d (Kd x m (sortL ls))), some (.d (Kd x k (sortL os))), none, none, none, none, none, none, none]) (S1 := S4) ?_ ?_
  · rw [ex_par, ev_kind (n := n + 3) (H.sub (by simp [nK10, nK10p, nKind])) V hL (by simp) (by simp), then_ok, set_inst]
    dsimp only
    rw [ev_kind (n := n + 3) (H.sub (by simp [nK10, nK10p, nKind])) V hO (by simp) (by simp), then_ok, set_inst]
    rfl
  -- joined
  have hjoin : ∃ e8 e9 e10, ∀ r, RetT (exs (T.g (callN T (n + 7))) r [some (script ns), some (.r 0), some (.d (.int m)), some (.d (.int k)), some (.d (.tup (ls.map Lo))), some (.d (.tup (os.map Lo))), some (.d (Kd x m (sortL ls))), some (.d (Kd x k (sortL os))), e8, e9, e10, none, none, none, none] S4) → RetT (exs (T.g (callN T (n + 7))) (match b_law_k10 x with
      | .cons _ (.cons _ (.cons _ (.cons _ (.cons s _)))) => .cons s r
      | _ => .nil) [some (script ns), some (.r 0), some (.d (.int m)), some (.d (.int k)), some (.d (.tup (ls.map Lo))), some (.d (.tup (os.map Lo))), some (.d (Kd x m (sortL ls))), some (.d (Kd x k (sortL os))), none, none, none, none, none, none, none] S4) := by
    by_cases hmk : 5 < m + k
    · refine ⟨none, none, none, fun r q => ?_⟩
      simp only [b_law_k10]
      have : (5 : Int) < (m : Int) + (k : Int) := by omega
      refine exs_itn (Q := RetT) (b := true) (by simp [this]) (fun _ => ?_) (fun z => by cases z) q
      refine exs_ifr (Q := fun Y => Y = MI.X.nx _ _) (b := false) ?_ (fun z => by cases z) fun _ => exs_nil
      exact tst_of (told_ne (n := n + 6) (f := n_joined) (H.sub (by simp [nK10])) X (.inr (.inr (.inr ⟨rfl, rfl⟩))) (.inr (.inr ⟨rfl, rfl⟩)) (joined_bad (n := n + 5) (told := sortL ls) (told2 := sortL os) (H.sub (by simp [nK10, nK10p])) V hmk) (by simp) (by simp))
    · have hmk : m + k ≤ 5 := by omega
      have hn : ¬ (5 : Int) < (m : Int) + (k : Int) := by omega
      have hd : ∃ a, exs (T.g (callN T (n + 7))) (match b_law_k10 x with
          | .cons _ (.cons _ (.cons _ (.cons _ (.cons (.ite _ _ d) _)))) => d
          | _ => .nil) [some (script ns), some (.r 0), some (.d (.int m)), some (.d (.int k)), some (.d (.tup (ls.map Lo))), some (.d (.tup (os.map Lo))), some (.d (Kd x m (sortL ls))), some (.d (Kd x k (sortL os))), none, none, none, none, none, none, none] S4 = .nx [some (script ns), some (.r 0), some (.d (.int m)), some (.d (.int k)), some (.d (.tup (ls.map Lo))), some (.d (.tup (os.map Lo))), some (.d (Kd x m (sortL ls))), some (.d (Kd x k (sortL os))), some (.d (.lst ((dueL m ls os).map Lo))), a, some (.d (Kd x (m + k) (sortL (joinL m ls os)))), none, none, none, none] S4 := by
        simp only [b_law_k10]
        refine set_lst (Q := fun Y => ∃ a, Y = MI.X.nx [some (script ns), some (.r 0), some (.d (.int m)), some (.d (.int k)), some (.d (.tup (ls.map Lo))), some (.d (.tup (os.map Lo))), some (.d (Kd x m (sortL ls))), some (.d (Kd x k (sortL os))), some (.d (.lst ((dueL m ls os).map Lo))), a, some (.d (Kd x (m + k) (sortL (joinL m ls os)))), none, none, none, none] S4) (xs := (dueL m [] os).map Lo) (by simp [dueL]) ?_
        refine exs_loop (Q := fun Y => ∃ a, Y = MI.X.nx [some (script ns), some (.r 0), some (.d (.int m)), some (.d (.int k)), some (.d (.tup (ls.map Lo))), some (.d (.tup (os.map Lo))), some (.d (Kd x m (sortL ls))), some (.d (Kd x k (sortL os))), some (.d (.lst ((dueL m ls os).map Lo))), a, some (.d (Kd x (m + k) (sortL (joinL m ls os)))), none, none, none, none] S4) (fun dn ρ S' => S' = S4 ∧ ∃ a, ρ = [some (script ns), some (.r 0), some (.d (.int m)), some (.d (.int k)), some (.d (.tup (ls.map Lo))), some (.d (.tup (os.map Lo))), some (.d (Kd x m (sortL ls))), some (.d (Kd x k (sortL os))), some (.d (.lst ((dueL m dn os).map Lo))), a, none, none, none, none, none]) ls Lo (by simp) ⟨rfl, none, rfl⟩ ?_ ?_
        · rintro dn l rest ρ S' e ⟨rfl, a, rfl⟩
          have hl5 := hL.small (show l ∈ ls by rw [e]; simp)
          have hdn : (dueL m dn os).length ≤ 4096 := Nat.le_trans (flat_len (k := 64) fun a _ => by rw [List.length_map]; exact hlen2) (by rw [e] at hlen; simp at hlen; omega)
          refine ⟨_, _, set_lst (Q := fun Y => Y = MI.X.nx _ _) (xs := (dueL m (dn ++ [l]) os).map Lo) ?_ exs_nil, rfl, some (.d (Lo l)), rfl⟩
          refine ev_op' (v := .d (.lst ((dueL m dn os).map Lo))) (by simp) rfl (ev_compM os Lo (fun _ => true) (fun o => Lo (l ++ shiftL m o)) (by simp) (lt_lim (by omega)) fun o ho => ⟨_, rfl, fun S'' => ⟨evO_no, fun _ => ⟨.d (Lo (l ++ shiftL m o)), ?_, rfl⟩⟩⟩) ?_
          · have ho5 := hO.small ho
            have hs : (shiftL m o).length = o.length := by unfold shiftL; simp
            refine ev_op' (v := .d (Lo l)) (v' := .d (Lo l)) (w := .d (Lo (shiftL m o))) (by simp [wipe]) rfl (ev_tuple1 (xs := (shiftL m o).map .int) ?_) ?_
            · rw [ev_compM o D.int (fun _ => true) (fun i => D.int (i + (m : Int))) (by simp [wipe]) (lt_lim (by omega)) fun i hi => ⟨_, rfl, fun S' => ⟨evO_no, fun _ => ⟨.d (.int (i + (m : Int))), by simp [wipe], rfl⟩⟩⟩]
              rw [List.filter_eq_self.mpr (fun _ _ => rfl)]
              unfold shiftL
              rw [List.map_map]
              rfl
            · rw [op_Lo, add_Lo (le_lim (by omega))]; rfl
          · rw [op_ln, List.filter_eq_self.mpr (fun _ _ => rfl), add_lst (le_lim (by simp only [List.length_map]; omega)), of_some]
            simp [dueL, Function.comp_def]
        · rintro ρ' S' ⟨rfl, a, rfl⟩
          have hJ := lots_join hL hO hmk
          refine ⟨a, exs_step (Q := fun Y => Y = MI.X.nx [some (script ns), some (.r 0), some (.d (.int m)), some (.d (.int k)), some (.d (.tup (ls.map Lo))), some (.d (.tup (os.map Lo))), some (.d (Kd x m (sortL ls))), some (.d (Kd x k (sortL os))), some (.d (.lst ((dueL m ls os).map Lo))), a, some (.d (Kd x (m + k) (sortL (joinL m ls os)))), none, none, none, none] S') (ρ1 := [some (script ns), some (.r 0), some (.d (.int m)), some (.d (.int k)), some (.d (.tup (ls.map Lo))), some (.d (.tup (os.map Lo))), some (.d (Kd x m (sortL ls))), some (.d (Kd x k (sortL os))), some (.d (.lst ((dueL m ls os).map Lo))), a, some (.d (Kd x (m + k) (sortL (joinL m ls os)))), none, none, none, none]) (S1 := S') ?_ ?_⟩
          · rw [ex_set, ev_call2 (v := .d (Kd x m (sortL ls))) (w := .d (Kd x k (sortL os))) (S1 := S') (S2 := S') (by simp) rfl (by simp) rfl (joined_ok (n := n + 2) (H.sub (by simp [nK10, nK10p, nKind])) V hL hO hmk), then_ok, set_inst]
            rfl
          refine exs_ifr (Q := fun Y => Y = MI.X.nx _ _) (b := false) ?_ (fun z => by cases z) fun _ => exs_nil
          exact kind_check (n := n + 4) (H.sub (by simp [nK10])) (H.sub (by simp [nK10, nK10p])) (j := (m : Int) + (k : Int)) hJ (by omega) (.inr (by simp)) (ev_tuple1 (by simp; rfl)) (by simp)
      obtain ⟨a, hd⟩ := hd
      refine ⟨some (.d (.lst ((dueL m ls os).map Lo))), a, some (.d (Kd x (m + k) (sortL (joinL m ls os)))), fun r q => ?_⟩
      exact exs_itn (Q := RetT) (b := false) (by simp [hn]) (fun z => by cases z) (fun _ => hd) q
  obtain ⟨e8, e9, e10, hj⟩ := hjoin
  refine hj _ ?_
  refine exs_ifr (Q := RetT) (b := false) ?_ (fun z => by cases z) fun _ => ?_
  · exact tst_not' (p := true) (tst_of (by simp [lessened_ok (n := n) (H.sub (by decide)) V X hL]))
  -- cut
  refine exs_loop (Q := RetT) (fun dn ρ S' => S' = S4 ∧ ∃ e11, ρ = [some (script ns), some (.r 0), some (.d (.int m)), some (.d (.int k)), some (.d (.tup (ls.map Lo))), some (.d (.tup (os.map Lo))), some (.d (Kd x m (sortL ls))), some (.d (Kd x k (sortL os))), e8, e9, e10, e11, none, none, none]) (rI 6) D.int ?_ ⟨rfl, none, rfl⟩ ?_ ?_
  · exact evI_rI (by simp) (by omega)
  · rintro dn c rest ρ S' e ⟨rfl, e11, rfl⟩
    obtain ⟨c0, c1⟩ := mem_rI.mp (show c ∈ rI 6 by rw [e]; simp)
    refine ⟨_, _, exs_ifr (Q := fun Y => Y = MI.X.nx _ _) (b := false) ?_ (fun z => by cases z) fun _ => exs_nil, rfl, some (.d (.int c)), rfl⟩
    refine check (d := .tup ((sortL (cutL ls c)).map Lo)) (ev_lots (n := n + 6) (H.sub (by simp [nK10, nK10p])) (ev_call2 (v := .d (Kd x m (sortL ls))) (w := .d (.int c)) (S1 := S') (S2 := S') (by simp) rfl (by simp) rfl (cut_ok (n := n + 2) (H.sub (by simp [nK10, nK10p, nKind])) V hL c0 (by omega))) rfl) (ev_tuple1 ?_) (equal_ok (n := n + 4) (H.sub (by simp [nK10])) 2 (lots_cut hL c0).eqa S')
    rw [ev_bi, evh_cons, ev_compM ls Lo (fun l => decide ((l.length : Int) ≤ c)) Lo (by simp) (lt_lim (by omega)) fun l hl => ⟨_, rfl, fun S' => ⟨by simp [wipe], fun _ => by simp [wipe]⟩⟩]
    simp [cutL]
  rintro ρ' S' ⟨rfl, e11, rfl⟩
  -- values that are no things
  refine exs_loop (Q := RetT) (fun dn ρ S'' => S'' = S' ∧ ∃ e12, ρ = [some (script ns), some (.r 0), some (.d (.int m)), some (.d (.int k)), some (.d (.tup (ls.map Lo))), some (.d (.tup (os.map Lo))), some (.d (Kd x m (sortL ls))), some (.d (Kd x k (sortL os))), e8, e9, e10, e11, e12, none, none]) (oddL m) (fun d => d) ?_ ⟨rfl, none, rfl⟩ ?_ ?_
  · simp [oddL]
  · rintro dn v rest ρ S'' e ⟨rfl, e12, rfl⟩
    have hv : v ∈ oddL m := by rw [e]; simp
    refine ⟨_, _, exs_ifr (Q := fun Y => Y = MI.X.nx _ _) (b := false) ?_ (fun z => by cases z) fun _ => exs_nil, rfl, some (.d v), rfl⟩
    refine tst_or' (p := false) (q := false) (tst_of ?_) fun _ => tst_of ?_
    · exact told_ne (n := n + 6) (f := n_without) (k := Kd x m (sortL ls)) (v := v) (H.sub (by simp [nK10])) X (.inl ⟨rfl, rfl⟩) (.inl ⟨rfl, rfl⟩) (without_bad (n := n + 2) (H.sub (by simp [nK10, nK10p, nKind])) (odd_ok hv) (odd_thing hv)) (by simp) (by simp)
    · exact told_ne (n := n + 6) (f := n_beside) (k := Kd x m (sortL ls)) (v := v) (H.sub (by simp [nK10])) X (.inr (.inl ⟨rfl, rfl⟩)) (.inl ⟨rfl, rfl⟩) (beside_bad (n := n + 2) (H.sub (by simp [nK10, nK10p, nKind])) (odd_ok hv) (odd_thing hv)) (by simp) (by simp)
  rintro ρ' S'' ⟨rfl, e12, rfl⟩
  have hc := ev_compM (g := T.g (callN T (n + 7))) (ρ := [some (script ns), some (.r 0), some (.d (.int m)), some (.d (.int k)), some (.d (.tup (ls.map Lo))), some (.d (.tup (os.map Lo))), some (.d (Kd x m (sortL ls))), some (.d (Kd x k (sortL os))), e8, e9, e10, e11, e12, none, none]) (S := S'') (elt := .var 12) (tg := .one 12) (it := .e (.lst (.cons false (.k .non) (.cons false (.neg (.k (.int (1)))) (.cons false (.k (.int (6))) (.cons false (.k (.str [48])) (.cons false (.k (.bl true)) (.cons false (.tup (.cons false (.k (.int (0))) .nil)) .nil)))))))) (ifs := .yes (.op .ne (.call (x.f n_l_told_k10) (.cons false (.k (.str [99, 117, 116])) (.cons false (.var 6) (.cons false (.var 12) .nil)))) (.k (.str [109, 111, 115, 116])))) (own := [12]) (oddL 6) (fun d => d) (fun _ => false) (fun d => d) (by simp [oddL]) (lt_lim (by simp [oddL])) fun v hv => ⟨_, rfl, fun S' => ⟨by
    rw [evO_yes]
    exact tst_of (told_ne (n := n + 6) (f := n_cut) (k := Kd x m (sortL ls)) (v := v) (H.sub (by simp [nK10])) X (.inr (.inr (.inl ⟨rfl, rfl⟩))) (.inr (.inl ⟨rfl, rfl⟩)) (cut_bad (n := n + 3) (H.sub (by simp [nK10, nK10p, nKind])) V (odd_ok hv) (odd_most hv)) (by simp [wipe]) (by simp [wipe])), fun z => by cases z⟩⟩
  have he : ((oddL 6).filter (fun _ => false)).map (fun d => d) = [] := by
    rw [List.filter_eq_nil_iff.mpr (by simp)]; rfl
  rw [he] at hc
  exact ⟨S'', exs_ret (ev_op' (v := .new (.lst [])) (v' := .d (.lst [])) hc rfl (w := .new (.lst [])) (by simp) rfl)⟩
theorem k10 (ns : List Int) (hl : ns.length ≤ 63) : ∃ S', callN PX_k10.T 8 (PX_k10.x.f n_law_k10) [script ns] [] = .ok (.d (.bl true)) S' := by
  have H : Hs PX_k10.T PX_k10.x nK10 := by
    intro k hk
    simp only [nK10, nK10p, nKind, List.mem_append, List.mem_cons, List.not_mem_nil, or_false] at hk
    rcases hk with ((rfl | rfl | rfl | rfl) | rfl | rfl | rfl | rfl | rfl | rfl | rfl | rfl | rfl) | rfl | rfl | rfl | rfl | rfl | rfl | rfl | rfl | rfl | rfl | rfl <;> rfl
  have X : Exs PX_k10.T PX_k10.x nErr := by
    refine ⟨fun a ha => ?_, fun a ha b hb => ?_⟩
    · simp only [nErr, List.mem_cons, List.not_mem_nil, or_false] at ha
      rcases ha with rfl | rfl | rfl <;> decide
    · simp only [nErr, List.mem_cons, List.not_mem_nil, or_false] at ha hb
      rcases ha with rfl | rfl | rfl <;> rcases hb with rfl | rfl | rfl <;> rfl
  exact law_k10_ok (n := 0) H ⟨rfl, rfl⟩ X hl
end
end PL
set_option linter.all false
set_option Elab.async false
set_option maxRecDepth 100000
set_option maxHeartbeats 0
namespace MiD_k10
open PySem PySem.Spec PyProof.Rows L2 MI
abbrev top (i : Nat) : Stmt := PySem.Challenge.pw_greedlots_k10_whole_kinds_of_kinds.main.body.getD i (.Pass ⟨0, 0, 0, 0⟩)
def bodyOf : Stmt → List Stmt
  | .ClassDef (body := b) .. => b
  | _ => []
abbrev sub (i j : Nat) : Stmt := (bodyOf (top i)).getD j (.Pass ⟨0, 0, 0, 0⟩)
abbrev s0 : Stmt := (sub 3 0)
def n0 : List Str := [(PySem.Str.ofString "self"), (PySem.Str.ofString "index")]
def m0 : Dm := ⟨.met (PySem.Str.ofString "BadLots") (PySem.Str.ofString "__init__"), (PySem.Str.ofString "__init__"), (PySem.Str.ofString "BadLots.__init__"), defArgs s0, defBody s0, defScope s0, n0⟩
abbrev s1 : Stmt := (top 9)
def n1 : List Str := [(PySem.Str.ofString "value")]
def m1 : Dm := ⟨.glo (PySem.Str.ofString "is_integer"), (PySem.Str.ofString "is_integer"), (PySem.Str.ofString "is_integer"), defArgs s1, defBody s1, defScope s1, n1⟩
abbrev s2 : Stmt := (top 10)
def n2 : List Str := [(PySem.Str.ofString "value"), (PySem.Str.ofString "low"), (PySem.Str.ofString "high")]
def m2 : Dm := ⟨.glo (PySem.Str.ofString "is_from"), (PySem.Str.ofString "is_from"), (PySem.Str.ofString "is_from"), defArgs s2, defBody s2, defScope s2, n2⟩
abbrev s3 : Stmt := (top 11)
def n3 : List Str := [(PySem.Str.ofString "value"), (PySem.Str.ofString "things"), (PySem.Str.ofString "one"), (PySem.Str.ofString "at")]
def m3 : Dm := ⟨.glo (PySem.Str.ofString "is_rising"), (PySem.Str.ofString "is_rising"), (PySem.Str.ofString "is_rising"), defArgs s3, defBody s3, defScope s3, n3⟩
abbrev s4 : Stmt := (sub 12 0)
def n4 : List Str := [(PySem.Str.ofString "self"), (PySem.Str.ofString "things"), (PySem.Str.ofString "lots"), (PySem.Str.ofString "index"), (PySem.Str.ofString "lot")]
def m4 : Dm := ⟨.met (PySem.Str.ofString "Kind") (PySem.Str.ofString "__init__"), (PySem.Str.ofString "__init__"), (PySem.Str.ofString "Kind.__init__"), defArgs s4, defBody s4, defScope s4, n4⟩
abbrev s5 : Stmt := (sub 12 1)
def n5 : List Str := [(PySem.Str.ofString "self")]
def m5 : Dm := ⟨.prp (PySem.Str.ofString "Kind") (PySem.Str.ofString "things"), (PySem.Str.ofString "things"), (PySem.Str.ofString "Kind.things"), defArgs s5, defBody s5, defScope s5, n5⟩
abbrev s6 : Stmt := (sub 12 2)
def n6 : List Str := [(PySem.Str.ofString "self")]
def m6 : Dm := ⟨.prp (PySem.Str.ofString "Kind") (PySem.Str.ofString "lots"), (PySem.Str.ofString "lots"), (PySem.Str.ofString "Kind.lots"), defArgs s6, defBody s6, defScope s6, n6⟩
abbrev s7 : Stmt := (sub 12 3)
def n7 : List Str := [(PySem.Str.ofString "self"), (PySem.Str.ofString "other")]
def m7 : Dm := ⟨.met (PySem.Str.ofString "Kind") (PySem.Str.ofString "__eq__"), (PySem.Str.ofString "__eq__"), (PySem.Str.ofString "Kind.__eq__"), defArgs s7, defBody s7, defScope s7, n7⟩
abbrev s8 : Stmt := (top 13)
def n8 : List Str := [(PySem.Str.ofString "lot"), (PySem.Str.ofString "thing"), (PySem.Str.ofString "one")]
def m8 : Dm := ⟨.glo (PySem.Str.ofString "without_thing"), (PySem.Str.ofString "without_thing"), (PySem.Str.ofString "without_thing"), defArgs s8, defBody s8, defScope s8, n8⟩
abbrev s9 : Stmt := (top 15)
def n9 : List Str := [(PySem.Str.ofString "one"), (PySem.Str.ofString "other"), (PySem.Str.ofString "found"), (PySem.Str.ofString "lot"), (PySem.Str.ofString "rest"), (PySem.Str.ofString "thing")]
def m9 : Dm := ⟨.glo (PySem.Str.ofString "joined"), (PySem.Str.ofString "joined"), (PySem.Str.ofString "joined"), defArgs s9, defBody s9, defScope s9, n9⟩
abbrev s10 : Stmt := (top 16)
def n10 : List Str := [(PySem.Str.ofString "lot"), (PySem.Str.ofString "thing"), (PySem.Str.ofString "one")]
def m10 : Dm := ⟨.glo (PySem.Str.ofString "closed_up"), (PySem.Str.ofString "closed_up"), (PySem.Str.ofString "closed_up"), defArgs s10, defBody s10, defScope s10, n10⟩
abbrev s11 : Stmt := (top 17)
def n11 : List Str := [(PySem.Str.ofString "kind"), (PySem.Str.ofString "thing")]
def m11 : Dm := ⟨.glo (PySem.Str.ofString "check_thing"), (PySem.Str.ofString "check_thing"), (PySem.Str.ofString "check_thing"), defArgs s11, defBody s11, defScope s11, n11⟩
abbrev s12 : Stmt := (top 18)
def n12 : List Str := [(PySem.Str.ofString "kind"), (PySem.Str.ofString "thing"), (PySem.Str.ofString "lot")]
def m12 : Dm := ⟨.glo (PySem.Str.ofString "without"), (PySem.Str.ofString "without"), (PySem.Str.ofString "without"), defArgs s12, defBody s12, defScope s12, n12⟩
abbrev s13 : Stmt := (top 19)
def n13 : List Str := [(PySem.Str.ofString "kind"), (PySem.Str.ofString "thing"), (PySem.Str.ofString "lot")]
def m13 : Dm := ⟨.glo (PySem.Str.ofString "beside"), (PySem.Str.ofString "beside"), (PySem.Str.ofString "beside"), defArgs s13, defBody s13, defScope s13, n13⟩
abbrev s14 : Stmt := (top 20)
def n14 : List Str := [(PySem.Str.ofString "kind"), (PySem.Str.ofString "most"), (PySem.Str.ofString "lot")]
def m14 : Dm := ⟨.glo (PySem.Str.ofString "cut"), (PySem.Str.ofString "cut"), (PySem.Str.ofString "cut"), defArgs s14, defBody s14, defScope s14, n14⟩
abbrev s15 : Stmt := (top 22)
def n15 : List Str := [(PySem.Str.ofString "_law_script"), (PySem.Str.ofString "_law_salt"), (PySem.Str.ofString "_law_seed"), (PySem.Str.ofString "_law_cell")]
def m15 : Dm := ⟨.glo (PySem.Str.ofString "_law_random"), (PySem.Str.ofString "_law_random"), (PySem.Str.ofString "_law_random"), defArgs s15, defBody s15, defScope s15, n15⟩
abbrev s16 : Stmt := (top 23)
def n16 : List Str := [(PySem.Str.ofString "_law_d"), (PySem.Str.ofString "_law_size"), (PySem.Str.ofString "_law_result")]
def m16 : Dm := ⟨.glo (PySem.Str.ofString "_law_below"), (PySem.Str.ofString "_law_below"), (PySem.Str.ofString "_law_below"), defArgs s16, defBody s16, defScope s16, n16⟩
abbrev s17 : Stmt := (top 24)
def n17 : List Str := [(PySem.Str.ofString "_law_d"), (PySem.Str.ofString "_law_items")]
def m17 : Dm := ⟨.glo (PySem.Str.ofString "_law_pick"), (PySem.Str.ofString "_law_pick"), (PySem.Str.ofString "_law_pick"), defArgs s17, defBody s17, defScope s17, n17⟩
abbrev s18 : Stmt := (top 25)
def n18 : List Str := [(PySem.Str.ofString "_law_actual"), (PySem.Str.ofString "_law_expected"), (PySem.Str.ofString "_law_key"), (PySem.Str.ofString "_law_k")]
def m18 : Dm := ⟨.glo (PySem.Str.ofString "_law_equal"), (PySem.Str.ofString "_law_equal"), (PySem.Str.ofString "_law_equal"), defArgs s18, defBody s18, defScope s18, n18⟩
abbrev s19 : Stmt := (top 26)
def n19 : List Str := [(PySem.Str.ofString "_law_things"), (PySem.Str.ofString "_law_found"), (PySem.Str.ofString "_law_thing"), (PySem.Str.ofString "_law_some")]
def m19 : Dm := ⟨.glo (PySem.Str.ofString "_law_parts"), (PySem.Str.ofString "_law_parts"), (PySem.Str.ofString "_law_parts"), defArgs s19, defBody s19, defScope s19, n19⟩
abbrev s20 : Stmt := (top 27)
def n20 : List Str := [(PySem.Str.ofString "_law_lot"), (PySem.Str.ofString "_law_thing")]
def m20 : Dm := ⟨.glo (PySem.Str.ofString "_law_with"), (PySem.Str.ofString "_law_with"), (PySem.Str.ofString "_law_with"), defArgs s20, defBody s20, defScope s20, n20⟩
abbrev s21 : Stmt := (top 28)
def n21 : List Str := [(PySem.Str.ofString "_law_d"), (PySem.Str.ofString "_law_things"), (PySem.Str.ofString "_law_found"), (PySem.Str.ofString "_law_kind"), (PySem.Str.ofString "_law_most"), (PySem.Str.ofString "_law_wide"), (PySem.Str.ofString "_law_k"), (PySem.Str.ofString "_law_lot")]
def m21 : Dm := ⟨.glo (PySem.Str.ofString "_law_lots"), (PySem.Str.ofString "_law_lots"), (PySem.Str.ofString "_law_lots"), defArgs s21, defBody s21, defScope s21, n21⟩
abbrev s22 : Stmt := (top 29)
def n22 : List Str := [(PySem.Str.ofString "_law_lot"), (PySem.Str.ofString "_law_thing"), (PySem.Str.ofString "_law_one")]
def m22 : Dm := ⟨.glo (PySem.Str.ofString "_law_less"), (PySem.Str.ofString "_law_less"), (PySem.Str.ofString "_law_less"), defArgs s22, defBody s22, defScope s22, n22⟩
abbrev s23 : Stmt := (top 30)
def n23 : List Str := [(PySem.Str.ofString "_law_way"), (PySem.Str.ofString "_law_kind"), (PySem.Str.ofString "_law_value"), (PySem.Str.ofString "_law_found")]
def m23 : Dm := ⟨.glo (PySem.Str.ofString "_law_told"), (PySem.Str.ofString "_law_told"), (PySem.Str.ofString "_law_told"), defArgs s23, defBody s23, defScope s23, n23⟩
abbrev s24 : Stmt := (top 31)
def n24 : List Str := [(PySem.Str.ofString "_law_kind"), (PySem.Str.ofString "_law_things"), (PySem.Str.ofString "_law_lots_here"), (PySem.Str.ofString "_law_thing"), (PySem.Str.ofString "_law_due"), (PySem.Str.ofString "_law_lot")]
def m24 : Dm := ⟨.glo (PySem.Str.ofString "_law_lessened"), (PySem.Str.ofString "_law_lessened"), (PySem.Str.ofString "_law_lessened"), defArgs s24, defBody s24, defScope s24, n24⟩
abbrev s25 : Stmt := (top 32)
def n25 : List Str := [(PySem.Str.ofString "_law_script"), (PySem.Str.ofString "_law_d"), (PySem.Str.ofString "_law_things"), (PySem.Str.ofString "_law_many"), (PySem.Str.ofString "_law_lots_here"), (PySem.Str.ofString "_law_others"), (PySem.Str.ofString "_law_kind"), (PySem.Str.ofString "_law_other"), (PySem.Str.ofString "_law_due"), (PySem.Str.ofString "_law_lot"), (PySem.Str.ofString "_law_told_here"), (PySem.Str.ofString "_law_most"), (PySem.Str.ofString "_law_value"), (PySem.Str.ofString "_law_rest"), (PySem.Str.ofString "_law_one")]
def m25 : Dm := ⟨.glo (PySem.Str.ofString "law"), (PySem.Str.ofString "law"), (PySem.Str.ofString "law"), defArgs s25, defBody s25, defScope s25, n25⟩
def dms : List Dm := [m0, m1, m2, m3, m4, m5, m6, m7, m8, m9, m10, m11, m12, m13, m14, m15, m16, m17, m18, m19, m20, m21, m22, m23, m24, m25]
def cnm : List Str := [(PySem.Str.ofString "GreedError"), (PySem.Str.ofString "BadThings"), (PySem.Str.ofString "BadLots"), (PySem.Str.ofString "BadMost"), (PySem.Str.ofString "TooMany"), (PySem.Str.ofString "BadThing"), (PySem.Str.ofString "Kind")]
def gnm : List Str := [(PySem.Str.ofString "MOST_THINGS")]
def mes : List (Nat × Nat × Str) := []
def prs : List (Nat × Nat × Str) := [(6, 5, (PySem.Str.ofString "things")), (6, 6, (PySem.Str.ofString "lots"))]
def nmt : List (Nat × List Str) := [(2, [(PySem.Str.ofString "index")]), (6, [(PySem.Str.ofString "many"), (PySem.Str.ofString "told")])]
def d : Dsc := ⟨PX_k10.T, dms, cnm, gnm, [6], mes, prs, nmt, [0, 1, 3, 4, 5], [2]⟩
theorem st : statB d = true := by decide +kernel
theorem o0 : defB d.ck m0 (PX_k10.fds.getD 0 ⟨0, 0, .nil⟩) = true := by decide +kernel
theorem o1 : defB d.ck m1 (PX_k10.fds.getD 1 ⟨0, 0, .nil⟩) = true := by decide +kernel
theorem o2 : defB d.ck m2 (PX_k10.fds.getD 2 ⟨0, 0, .nil⟩) = true := by decide +kernel
theorem o3 : defB d.ck m3 (PX_k10.fds.getD 3 ⟨0, 0, .nil⟩) = true := by decide +kernel
theorem o4 : defB d.ck m4 (PX_k10.fds.getD 4 ⟨0, 0, .nil⟩) = true := by decide +kernel
theorem o5 : defB d.ck m5 (PX_k10.fds.getD 5 ⟨0, 0, .nil⟩) = true := by decide +kernel
theorem o6 : defB d.ck m6 (PX_k10.fds.getD 6 ⟨0, 0, .nil⟩) = true := by decide +kernel
theorem o7 : defB d.ck m7 (PX_k10.fds.getD 7 ⟨0, 0, .nil⟩) = true := by decide +kernel
theorem o8 : defB d.ck m8 (PX_k10.fds.getD 8 ⟨0, 0, .nil⟩) = true := by decide +kernel
theorem o9 : defB d.ck m9 (PX_k10.fds.getD 9 ⟨0, 0, .nil⟩) = true := by decide +kernel
theorem o10 : defB d.ck m10 (PX_k10.fds.getD 10 ⟨0, 0, .nil⟩) = true := by decide +kernel
theorem o11 : defB d.ck m11 (PX_k10.fds.getD 11 ⟨0, 0, .nil⟩) = true := by decide +kernel
theorem o12 : defB d.ck m12 (PX_k10.fds.getD 12 ⟨0, 0, .nil⟩) = true := by decide +kernel
theorem o13 : defB d.ck m13 (PX_k10.fds.getD 13 ⟨0, 0, .nil⟩) = true := by decide +kernel
theorem o14 : defB d.ck m14 (PX_k10.fds.getD 14 ⟨0, 0, .nil⟩) = true := by decide +kernel
theorem o15 : defB d.ck m15 (PX_k10.fds.getD 15 ⟨0, 0, .nil⟩) = true := by decide +kernel
theorem o16 : defB d.ck m16 (PX_k10.fds.getD 16 ⟨0, 0, .nil⟩) = true := by decide +kernel
theorem o17 : defB d.ck m17 (PX_k10.fds.getD 17 ⟨0, 0, .nil⟩) = true := by decide +kernel
theorem o18 : defB d.ck m18 (PX_k10.fds.getD 18 ⟨0, 0, .nil⟩) = true := by decide +kernel
theorem o19 : defB d.ck m19 (PX_k10.fds.getD 19 ⟨0, 0, .nil⟩) = true := by decide +kernel
theorem o20 : defB d.ck m20 (PX_k10.fds.getD 20 ⟨0, 0, .nil⟩) = true := by decide +kernel
theorem o21 : defB d.ck m21 (PX_k10.fds.getD 21 ⟨0, 0, .nil⟩) = true := by decide +kernel
theorem o22 : defB d.ck m22 (PX_k10.fds.getD 22 ⟨0, 0, .nil⟩) = true := by decide +kernel
theorem o23 : defB d.ck m23 (PX_k10.fds.getD 23 ⟨0, 0, .nil⟩) = true := by decide +kernel
theorem o24 : defB d.ck m24 (PX_k10.fds.getD 24 ⟨0, 0, .nil⟩) = true := by decide +kernel
theorem o25 : defB d.ck m25 (PX_k10.fds.getD 25 ⟨0, 0, .nil⟩) = true := by decide +kernel
theorem df : ∀ (f : Nat) (m : Dm) (fd : Fd), d.dms[f]? = some m → d.T.fds[f]? = some fd → defB d.ck m fd = true := by
  intro f m fd h1 h2
  match f, h1, h2 with
  | 0, h1, h2 => cases h1; cases h2; exact o0
  | 1, h1, h2 => cases h1; cases h2; exact o1
  | 2, h1, h2 => cases h1; cases h2; exact o2
  | 3, h1, h2 => cases h1; cases h2; exact o3
  | 4, h1, h2 => cases h1; cases h2; exact o4
  | 5, h1, h2 => cases h1; cases h2; exact o5
  | 6, h1, h2 => cases h1; cases h2; exact o6
  | 7, h1, h2 => cases h1; cases h2; exact o7
  | 8, h1, h2 => cases h1; cases h2; exact o8
  | 9, h1, h2 => cases h1; cases h2; exact o9
  | 10, h1, h2 => cases h1; cases h2; exact o10
  | 11, h1, h2 => cases h1; cases h2; exact o11
  | 12, h1, h2 => cases h1; cases h2; exact o12
  | 13, h1, h2 => cases h1; cases h2; exact o13
  | 14, h1, h2 => cases h1; cases h2; exact o14
  | 15, h1, h2 => cases h1; cases h2; exact o15
  | 16, h1, h2 => cases h1; cases h2; exact o16
  | 17, h1, h2 => cases h1; cases h2; exact o17
  | 18, h1, h2 => cases h1; cases h2; exact o18
  | 19, h1, h2 => cases h1; cases h2; exact o19
  | 20, h1, h2 => cases h1; cases h2; exact o20
  | 21, h1, h2 => cases h1; cases h2; exact o21
  | 22, h1, h2 => cases h1; cases h2; exact o22
  | 23, h1, h2 => cases h1; cases h2; exact o23
  | 24, h1, h2 => cases h1; cases h2; exact o24
  | 25, h1, h2 => cases h1; cases h2; exact o25
  | n + 26, h1, h2 => cases h1
def loose : List Str := [(PySem.Str.ofString "__name__"), (PySem.Str.ofString "GreedError"), (PySem.Str.ofString "BadThings"), (PySem.Str.ofString "BadLots"), (PySem.Str.ofString "BadMost"), (PySem.Str.ofString "TooMany"), (PySem.Str.ofString "BadThing"), (PySem.Str.ofString "MOST_THINGS"), (PySem.Str.ofString "is_integer"), (PySem.Str.ofString "is_from"), (PySem.Str.ofString "is_rising"), (PySem.Str.ofString "Kind"), (PySem.Str.ofString "without_thing"), (PySem.Str.ofString "joined"), (PySem.Str.ofString "closed_up"), (PySem.Str.ofString "check_thing"), (PySem.Str.ofString "without"), (PySem.Str.ofString "beside"), (PySem.Str.ofString "cut"), (PySem.Str.ofString "_law_random"), (PySem.Str.ofString "_law_below"), (PySem.Str.ofString "_law_pick"), (PySem.Str.ofString "_law_equal"), (PySem.Str.ofString "_law_parts"), (PySem.Str.ofString "_law_with"), (PySem.Str.ofString "_law_lots"), (PySem.Str.ofString "_law_less"), (PySem.Str.ofString "_law_told"), (PySem.Str.ofString "_law_lessened")]
abbrev R : PySem.W.OpenRow := PySem.W.OpenLaw.row PySem.Challenge.rw_greedlots_k10_whole_kinds_of_kinds
abbrev hk : PySem.W.Hook := hookM 6 d
def ob (s : PySem.W.SharedT) : He.AlD := obsMG 6 d (HandSHeadRun.getT s)
theorem ob_eq (s : PySem.W.SharedT) : ob s = hk.obs s.abs := obsMG_eq (HandSHeadRun.getT_eq s)
theorem run (w : World) : HandSHeadRun.RunEq R (PySem.W.view R.prog [32]) hk ob 3000 loose w := by
  intro os
  kernel_rfl
end MiD_k10
theorem MiD_k10.hroom (n : Nat) (hn : n ≤ 40) : L2.Room (2 * n + 1) PySem.callerA := ⟨rfl, by have : PySem.callerA.depth + 3 * 81 + 5 < PySem.recursionLimit := by decide
                                                                                              omega, by have : PySem.callerA.units + 16 * 81 + 200 < PySem.cLine := by decide
                                                                                                        omega⟩
open PySem PySem.W PySem.Calls PyProof.Rows in
theorem MiD_k10.holds (n : Nat) (hn : n ≤ 40) (law : ∀ ns : List Int, ns.length ≤ 63 → ∃ S', MI.callN PX_k10.T n 25 [MI.script ns] [] = .ok (.d (.bl true)) S') (hy : ∀ K n, MI.Hyp (MiD_k10.d.info K) n) : PySem.Challenge.rw_greedlots_k10_whole_kinds_of_kinds.Holds := by
  w_on; o_law
  refine HandSHeadRun.head_any (r := OpenLaw.row PySem.Challenge.rw_greedlots_k10_whole_kinds_of_kinds) (q := view (OpenLaw.row PySem.Challenge.rw_greedlots_k10_whole_kinds_of_kinds).prog [32]) (H := MiD_k10.hk) (ob := MiD_k10.ob) (M := 3000) (loose := MiD_k10.loose) (d := HandSHeadRun.topDef (OpenLaw.row PySem.Challenge.rw_greedlots_k10_whole_kinds_of_kinds).prog 32) (kwd := []) MiD_k10.ob_eq
    (by kernel_rfl) (fun s => by kernel_rfl) MiD_k10.run (by kernel_rfl) (by kernel_rfl) (by kernel_rfl) (by rfl) (by first | assumption | decide +kernel) (by decide +kernel) ⟨rfl, rfl, rfl, rfl, rfl, by decide +kernel⟩ ?hw ?hc
  case hw => w_witness2
  case hc =>
    refine MI.walk_ofEC (l := PySem.Challenge.rw_greedlots_k10_whole_kinds_of_kinds) (n := 63) (k := 2 * n + 1) (x := "_law_script") (CX := fun w => L2.CX PySem.Challenge.rw_greedlots_k10_whole_kinds_of_kinds.prog w) rfl (by decide) (by kernel_rfl) (MiD_k10.hroom n hn) ?F (fun w H s e s' hq => by
      obtain ⟨_, _, _, _, _, _, _, _, _, _, _, _, z⟩ := hq
      exact z)
    intro w mg fa h Y G hmg0
    obtain ⟨K, KX, c⟩ := Y
    have hmg : mg ("law" : PySem.Str) = some (.ref fa) := by
      have e : (HandSHeadRun.topDef (OpenLaw.row PySem.Challenge.rw_greedlots_k10_whole_kinds_of_kinds).prog 32).name = ("law" : PySem.Str) := by kernel_rfl
      rw [← e]
      exact hmg0
    obtain ⟨hb, hF⟩ := MI.law_facts (P := PySem.Challenge.rw_greedlots_k10_whole_kinds_of_kinds.prog) (w := w) (n := n) (iL := 25) (m := MiD_k10.m25) (fd := PX_k10.fds.getD 25 ⟨0, 0, .nil⟩) KX G c MiD_k10.st MiD_k10.df (hy K) (fun n => MI.dictIn_none) trivial rfl rfl rfl hmg
    have ep : MiD_k10.m25.ps = (["_law_script"] : List PySem.Str) := by decide +kernel
    rw [ep] at hb hF
    exact ⟨K, MI.fdAt K fa, _, KX, fun s u => hb s [u] rfl, fun H a ns hl _ hS => by
      obtain ⟨S', hS'⟩ := law ns hl
      exact MI.law_sp hS hS' fun _ => rfl, hF⟩
theorem PySem.Challenge.cw_greedlots_k10_whole_kinds_of_kinds_holds : PySem.Challenge.rw_greedlots_k10_whole_kinds_of_kinds.Holds := by
  exact MiD_k10.holds 8 (by omega) (fun ns h => PL.k10 ns h) (fun K n => MI.hyp_none rfl)
