import PyProof.Rows.All
import Wide.All
import OpenK.AllK
import Wide.FinOn
import HandS.ForMost
import HandS.ForExc
import HandS.Deep
import HandS.TupAny
import HandS.TupMul
import HandS.Conv
import HandS.Zip
import KE.SortData
import KE.DataCmp
import KE.KExcSuper
import HandS.ExcInit
import HandS.ExcSuper
import HandS.Star
import PyProof.ReprRoads
import PyProof.ReprDict
import HandS.SortInts
import HandS.SortKw
import HandS.Wide
import HandS.WideMore
import HandS.Style
import HandS.IsInst
import HandS.TryOnly
import KE.GoesEnum
import KE.GoesMore
import KE.GoesZip
import HandS.Iter
import HandS.Rev
import HandS.Words
import HandS.Defaults
import HandS.Strs
import HandS.CallRecv
import HandS.ExcField
import HandS.DictTup
import PyProof.Rows.FactsN_isinstance
import PyProof.Rows.FactsN_abs
import HandS.HeadEnd
import HandS.HeadHook2
import KE.KStateDown
import HandS.More
import HandS.Head0
import HandS.Head1
import HandS.Head2
import HandS.HeadHook1
import HandS.HeadHook4
import PySem.Challenge.RW_codenests_k48_whole_plain_orders
set_option Elab.async false
set_option linter.all false
set_option maxRecDepth 100000
/-! VIa: values as trees, the small language and what it computes (no machine in sight). -/
namespace VI
open PySem PySem.Spec PyProof.Rows L2
/-- a value as a tree; obj: an instance of class number c; src: the law's source of draws -/
inductive D where
  | non | bl (b : Bool) | int (i : Int) | str (s : Str)
  | tup (xs : List D) | lst (xs : List D)
  | dic (kvs : List (Key × D))
  | obj (c : Nat) (fs : List (Str × D))
  | src
  | scr (ns : List Int)       -- the script
  | mem (i : Nat)             -- a dict that changes
  deriving Inhabited
mutual
def D.py : D → PyData
  | .non => .none
  | .bl b => .bool b
  | .int i => .int i
  | .str s => .str s
  | .tup xs => .tuple (D.pys xs)
  | .lst xs => .list (D.pys xs)
  | .dic kvs => .dict (D.pyk kvs)
  | .obj _ _ => .none
  | .src => .none
  | .scr _ => .none
  | .mem _ => .none
def D.pys : List D → List PyData
  | [] => []
  | x :: xs => x.py :: D.pys xs
def D.pyk : List (Key × D) → List (PyData × PyData)
  | [] => []
  | (k, v) :: r => ((match k with | .inl i => .int i | .inr s => .str s), v.py) :: D.pyk r
end
mutual
/-- no instance, no source within -/
def D.plain : D → Bool
  | .non | .bl _ | .int _ | .str _ => true
  | .tup xs => D.plains xs
  | .lst xs => D.plains xs
  | .dic kvs => D.plaink kvs
  | .obj _ _ => false
  | .src => false
  | .scr _ => false
  | .mem _ => false
def D.plains : List D → Bool
  | [] => true
  | x :: xs => x.plain && D.plains xs
def D.plaink : List (Key × D) → Bool
  | [] => true
  | (_, v) :: r => v.plain && D.plaink r
end
mutual
/-- no list, no script within -/
def D.noL : D → Bool
  | .lst _ | .scr _ => false
  | .tup xs => D.noLs xs
  | .dic kvs => D.noLk kvs
  | .obj _ fs => D.noLf fs
  | _ => true
def D.noLs : List D → Bool
  | [] => true
  | x :: xs => x.noL && D.noLs xs
def D.noLk : List (Key × D) → Bool
  | [] => true
  | (_, v) :: r => v.noL && D.noLk r
def D.noLf : List (Str × D) → Bool
  | [] => true
  | (_, v) :: r => v.noL && D.noLf r
end
/-- in flight or in a slot: a value that nothing will change, or a list that is held here alone -/
inductive Vl where
  | fz (d : D)
  | ow (xs : List D)
  deriving Inhabited
def Vl.d : Vl → D
  | .fz d => d
  | .ow xs => .lst xs
def Vl.noL : Vl → Bool
  | .fz d => d.noL
  | .ow xs => D.noLs xs
abbrev Sl := Option Vl
abbrev Rho := List Sl
/-- what a dict that changes tells of a key -/
inductive Mv where
  | int (i : Int) | bl (b : Bool)
  deriving Inhabited
def Mv.d : Mv → D
  | .int i => .int i
  | .bl b => .bl b
/-- a dict that changes: keys are tuples of ints and texts -/
abbrev Mem := List (List Key × Mv)
/-- the law's source; the dicts that change -/
structure Src where
  cells : List Int
  left : Int
  mixed : Int
  turn : Int
  mem : List Mem := []
abbrev So := Option Src
structure Exc where
  c : Nat
  fs : List (Str × D)
inductive Rs (α : Type) where
  | ok (a : α) (ρ : Rho) (S : So)
  | rs (x : Exc) (ρ : Rho) (S : So)
  | no
def Rs.bind {α β : Type} (r : Rs α) (f : α → Rho → So → Rs β) : Rs β := match r with
  | .ok a ρ S => f a ρ S
  | .rs x ρ S => .rs x ρ S
  | .no => .no
inductive Rc where
  | ok (v : Vl) (S : So)
  | rs (x : Exc) (S : So)
  | no
inductive Bop | add | sub | mul | mod | fdiv | pow
  deriving DecidableEq
inductive Cop | eq | ne | lt | le | gt | ge | is | isn | inn | nin
  deriving DecidableEq
/-- built-in functions of one argument -/
inductive B1 | len | tuple | list | int | abs | sum | repr | sorted | sortR | max | min | any | all | str
  deriving DecidableEq
inductive B2 | max | min
  deriving DecidableEq
/-- kinds of things that isinstance asks for -/
inductive Ty | int | bool | str | list | tuple | dict
  deriving DecidableEq
inductive Fn | f (n : Nat) | m (c : Nat) (m : Str) | mk (c : Nat)
  deriving DecidableEq
/-- what is walked: a list or tuple; a range; enumerate; zip; reversed -/
inductive ItK | val | rng | enum | zip | rev
  deriving DecidableEq
inductive Tg | nm (i : Nat) | tp (is : List Nat)
  deriving DecidableEq
/-- the numbers of the law's source -/
inductive SK | left | mixed | turn
  deriving DecidableEq
inductive E where
  | var (i : Nat)
  | int (i : Int) | bl (b : Bool) | non | str (s : Str)
  | tup (es : List E) | lst (es : List E)
  | std (t : Bool) (fs : List Bool) (es : List E)   -- (a, *b), [a, *b]: fs tells which are starred
  | bin (op : Bop) (a b : E)
  | neg (a : E)
  | not (a : E) | and (a b : E) | or (a b : E)
  | cmp (op : Cop) (a b : E)
  | chn (op op2 : Cop) (a b c : E)
  | ife (c a b : E)
  | ix (a i : E)
  | sl (a lo hi : E)          -- .non: left out
  | rev (a : E)               -- a[::-1]
  | comp (elt : E) (tg : Tg) (k : ItK) (args : List E) (cond : E) (own : List Nat)
  | call (f : Nat) (args : List E)
  | bcall (f : Nat) (args : List E)  -- names' lists stay with their names; what comes back holds no list
  | meth (m : Str) (o : E) (args : List E)
  | dic (ks : List Key) (es : List E) -- {k: e, ..}, the keys written
  | key (a : E) (k : Str)             -- a[".."]
  | make (c : Nat) (args : List E)
  | b1 (b : B1) (a : E)
  | b2 (b : B2) (a c : E)
  | isi (ts : List Ty) (a : E)
  | trng (args : List E) | lrng (args : List E)   -- tuple(range(..)), list(range(..))
  | fld (o : E) (f : Str)
  | pop0 (i : Nat)             -- x.pop()
  | pop (i : Nat) (at_ : E)    -- x.pop(e)
  | index (a b : E)
  | irg (neg : Bool) (a e : E)   -- a in range(e), a not in range(e)
  | mks (c l m t : E)          -- the law's source is made
  | sget (i : Nat) (k : SK) | slen (i : Nat) | spop (i : Nat)
  | dnew | din (neg : Bool) (a o : E) | dget (o a : E) | dkeys (o : E)   -- dicts that change: {}, a in o, o[a], list(o)
  | kix (a i : E) | kget (a i x : E)                                    -- {..}[i], {..}.get(i, x)
  deriving Inhabited
/-- what an except suite tells: written things, a field of the exception; a list of such -/
inductive HA | bl (b : Bool) | non | str (s : Str) | fld (f : Str)
inductive HE | one (a : HA) | lst (as : List HA) | tup (as : List HA)
inductive HS | ret (e : HE) | retn | asg (i : Nat) (e : HE)
inductive S where
  | asg (t : Tg) (e : E)
  | par (is : List Nat) (es : List E)
  | aug (i : Nat) (op : Bop) (e : E)
  | ite (c : E) (a b : List S)
  | whl (c : E) (b : List S)
  | for_ (t : Tg) (k : ItK) (args : List E) (b : List S)
  | ret (e : E)
  | retn
  | ex (e : E)
  | app (i : Nat) (e : E)
  | ext (i : Nat) (e : E)
  | sti (i : Nat) (at_ e : E)
  | sw (i : Nat) (a : E) (j : Nat) (b : E) (es : List E)   -- x[a], y[b] = v, w
  | sput (i : Nat) (k : SK) (e : E)
  | dput (o a e : E)                                       -- o[a] = e, o a dict that changes
  | mov (i j : Nat)                                        -- x = y, of a list that y holds alone: y is read no more
  | brk | cnt | pss | nev
  | rse (c : Nat) (f : Option (Str × Bool)) (e : E)      -- raise C(), raise C(e); the field, tuple(e) is stored
  | try_ (b : List S) (cs ns : List Nat) (nm : Option Nat) (h : HS)   -- the classes that the clause takes, that it lets through
  deriving Inhabited
/-! ### values -/
def lim : Nat := 16777216
def ok? {α : Type} (c : Bool) (a : α) : Option α := if c then some a else none
/-- what a multiplication may be asked, a division -/
def mulOk (i j : Int) : Prop := (i.natAbs < 2 ^ 64 ∨ j.natAbs < 2 ^ 64) ∨ i.natAbs.log2 + j.natAbs.log2 < 1000000
def divOk (j : Int) : Prop := 0 < j ∧ j.natAbs.log2 < 9000
instance (i j : Int) : Decidable (mulOk i j) := by unfold mulOk; exact inferInstance
instance (j : Int) : Decidable (divOk j) := by unfold divOk; exact inferInstance
def binD : Bop → D → D → Option Vl
  | .add, .int i, .int j => some (.fz (.int (i + j)))
  | .add, .str a, .str b => ok? (decide (a.length + b.length ≤ lim)) (.fz (.str (a ++ b)))
  | .add, .lst a, .lst b => ok? (decide (a.length + b.length ≤ lim)) (.ow (a ++ b))
  | .add, .tup a, .tup b => ok? (decide (a.length + b.length ≤ lim)) (.fz (.tup (a ++ b)))
  | .sub, .int i, .int j => some (.fz (.int (i - j)))
  | .mul, .int i, .int j => ok? (decide (mulOk i j)) (.fz (.int (i * j)))
  | .mul, .tup xs, .int k => ok? (decide (0 ≤ k ∧ k ≤ 1000 ∧ xs.length ≤ 1000)) (.fz (.tup (List.replicate k.toNat xs).flatten))
  | .mul, .lst xs, .int k => ok? (decide (0 ≤ k ∧ k ≤ 1000 ∧ xs.length ≤ 1000)) (.ow (List.replicate k.toNat xs).flatten)
  | .mod, .int i, .int j => ok? (decide (0 < j)) (.fz (.int (i % j)))
  | .fdiv, .int i, .int j => ok? (decide (divOk j)) (.fz (.int (i / j)))
  | .pow, .int i, .int j => ok? (decide (0 ≤ j ∧ j ≤ 1000000 ∧ i.natAbs < 2 ^ 64)) (.fz (.int (i ^ j.toNat)))
  | _, _, _ => none
def D.isNon : D → Bool
  | .non => true
  | _ => false
def eqD0 (x y : D) : Option Bool := ok? (x.plain && y.plain && SeqAt.shaped x.py && SeqAt.shaped y.py) (PyData.eqv x.py y.py)
def eqD : D → D → Option Bool
  | .str a, .str b => some (a == b)
  | x, y => eqD0 x y
def inD (x : D) (ys : List D) : Option Bool := ok? (x.plain && D.plains ys && SeqAt.shaped x.py && SeqAt.shaped (.list (D.pys ys))) (ys.any fun y => PyData.eqv y.py x.py)
/-- a tuple beside the empty one, whatever it holds -/
def eqT : D → D → Option Bool
  | .tup xs, .tup [] => some xs.isEmpty
  | x, y => eqD x y
def seqD : D → Bool
  | .lst _ | .tup _ => true
  | _ => false
/-- x < y for lists and tuples of one shape -/
def ltD (x y : D) : Option Bool := ok? (seqD x && x.plain && y.plain && SeqAt.shaped x.py && SeqAt.shaped y.py && PySem.W.alike x.py y.py) (PySem.W.dataLt x.py y.py)
def cmpD : Cop → D → D → Option Bool
  | .eq, x, y => eqT x y
  | .ne, x, y => (eqD x y).map (!·)
  | .lt, .int i, .int j => some (decide (i < j))
  | .le, .int i, .int j => some (decide (i ≤ j))
  | .gt, .int i, .int j => some (decide (j < i))
  | .ge, .int i, .int j => some (decide (j ≤ i))
  | .is, x, .non => some x.isNon
  | .isn, x, .non => some !x.isNon
  | .inn, x, .lst ys => inD x ys
  | .nin, x, .lst ys => (inD x ys).map (!·)
  | .inn, x, .tup ys => inD x ys
  | .nin, x, .tup ys => (inD x ys).map (!·)
  | .lt, x, y => ltD x y
  | _, _, _ => none
def irgD : Bool → D → D → Option Bool
  | false, .int i, .int j => some (decide (0 ≤ i ∧ i < j))
  | true, .int i, .int j => some (!decide (0 ≤ i ∧ i < j))
  | _, _, _ => none
def ixD : D → D → Option Vl
  | .lst xs, .int i => (atI xs i).map .fz
  | .tup xs, .int i => (atI xs i).map .fz
  | _, _ => none
def cut {α : Type} (xs : List α) (lo hi : Option Int) : List α := (xs.drop (HT.sIx xs.length 0 lo)).take (HT.sIx xs.length xs.length hi - HT.sIx xs.length 0 lo)
def slD : D → Option Int → Option Int → Option Vl
  | .lst xs, lo, hi => some (.ow (cut xs lo hi))
  | .tup xs, lo, hi => some (.fz (.tup (cut xs lo hi)))
  | _, _, _ => none
def revD : D → Option Vl
  | .lst xs => some (.ow xs.reverse)
  | .tup xs => some (.fz (.tup xs.reverse))
  | _ => none
def ints? : List D → Option (List Int)
  | [] => some []
  | .int i :: r => (ints? r).map (i :: ·)
  | _ :: _ => none
def bools? : List D → Option (List Bool)
  | [] => some []
  | .bl b :: r => (bools? r).map (b :: ·)
  | _ :: _ => none
/-- one list of ints before the other -/
def lexI : List Int → List Int → Bool
  | [], [] => false
  | [], _ :: _ => true
  | _ :: _, [] => false
  | x :: xs, y :: ys => if x = y then lexI xs ys else decide (x < y)
def insL {α : Type} (lt : α → α → Bool) (x : α) : List α → List α
  | [] => [x]
  | y :: ys => if lt x y = true then x :: y :: ys else y :: insL lt x ys
def srtL {α : Type} (lt : α → α → Bool) : List α → List α
  | [] => []
  | x :: xs => insL lt x (srtL lt xs)
def tupI (is : List Int) : D := .tup (is.map .int)
/-- tuples of ints, none of them empty -/
def tups? : List D → Option (List (List Int))
  | [] => some []
  | .tup xs :: r => (match ints? xs with
    | some (i :: is) => (tups? r).map ((i :: is) :: ·)
    | _ => none)
  | _ :: _ => none
/-- sorted() of data of one shape -/
def isCons : D → Bool
  | .tup (_ :: _) => true
  | _ => false
def notTup : D → Bool
  | .tup _ | .non => false
  | _ => true
def srtOk (xs : List D) : Bool := D.plains xs && (xs.all fun x => SeqAt.shaped x.py && decide (x.py.depth ≤ 60)) && (xs.all fun x => xs.all fun y => PySem.W.alike x.py y.py) && (xs.all isCons || xs.all notTup)
def srtD (xs : List D) : List D := xs.mergeSort fun x y => !PySem.W.dataLt y.py x.py
def sortG (xs : List D) : Option Vl := if xs.length ≤ 1 then some (.ow xs) else ok? (srtOk xs) (.ow (srtD xs))
def maxI (i : Int) (is : List Int) : Int := is.foldl max i
def minI (i : Int) (is : List Int) : Int := is.foldl min i
def b1D : B1 → D → Option Vl
  | .len, .lst xs => some (.fz (.int xs.length))
  | .len, .tup xs => some (.fz (.int xs.length))
  | .len, .str s => ok? (decide (s.length ≤ lim)) (.fz (.int s.length))
  | .tuple, .lst xs => some (.fz (.tup xs))
  | .tuple, .tup xs => some (.fz (.tup xs))
  | .list, .lst xs => some (.ow xs)
  | .list, .tup xs => some (.ow xs)
  | .int, .int i => some (.fz (.int i))
  | .int, .bl b => some (.fz (.int (if b then 1 else 0)))
  | .abs, .int i => some (.fz (.int (if i < 0 then -i else i)))
  | .sum, .lst xs => (ints? xs).map fun is => .fz (.int is.sum)
  | .any, .lst xs => (bools? xs).map fun bs => .fz (.bl (bs.any id))
  | .all, .lst xs => (bools? xs).map fun bs => .fz (.bl (bs.all id))
  | .sorted, .lst xs => (match ints? xs with
    | some is => some (.ow ((srtL (fun i j : Int => decide (i < j)) is).map .int))
    | none => (match tups? xs with
      | some ks => some (.ow ((srtL lexI ks).map tupI))
      | none => sortG xs))
  | .sortR, .lst xs => (match ints? xs with
    | some is => some (.ow (((srtL (fun i j : Int => decide (i < j)) is).reverse).map .int))
    | none => (tups? xs).map fun ks => .ow (((srtL lexI ks).reverse).map tupI))
  | .max, .lst xs => (match ints? xs with
    | some (i :: is) => some (.fz (.int (maxI i is)))
    | _ => none)
  | .min, .lst xs => (match ints? xs with
    | some (i :: is) => some (.fz (.int (minI i is)))
    | _ => none)
  | .str, .int i => ok? (decide (i.natAbs < 10 ^ 12)) (.fz (.str (toString i)))
  | .repr, d => ok? (d.plain && d.py.showable && decide (d.py.shown.length ≤ lim) && decide (d.py.depth ≤ 60)) (.fz (.str d.py.shown))
  | _, _ => none
def b2D : B2 → D → D → Option Vl
  | .max, .int i, .int j => some (.fz (.int (if j > i then j else i)))
  | .min, .int i, .int j => some (.fz (.int (if j < i then j else i)))
  | _, _, _ => none
/-- a value's kind, as isinstance sees it -/
def D.kind : D → Option String
  | .non => some "NoneType"
  | .bl _ => some "bool"
  | .int _ => some "int"
  | .str _ => some "str"
  | .tup _ => some "tuple"
  | .lst _ => some "list"
  | .dic _ => some "dict"
  | _ => none
def Ty.nm : Ty → String
  | .int => "int"
  | .bool => "bool"
  | .str => "str"
  | .list => "list"
  | .tuple => "tuple"
  | .dict => "dict"
def isaB (k : String) (t : Ty) : Bool := k == t.nm || (k == "bool" && t == .int)
def D.isObj : D → Bool
  | .obj _ _ => true
  | _ => false
def isaD (ts : List Ty) (d : D) : Option Bool := match d.kind with
  | some k => some (ts.any (isaB k))
  | none => if d.isObj then some false else none
def rngL (lo hi : Int) : List D := (List.range (hi - lo).toNat).map fun i => .int (lo + (i : Nat))
def rng? (most : Int) : List D → Option (List D)
  | [.int j] => ok? (decide (-most ≤ j ∧ j < most)) (rngL 0 j)
  | [.int i, .int j] => ok? (decide (-most ≤ i ∧ i < most ∧ -most ≤ j ∧ j < most)) (rngL i j)
  | _ => none
/-- what a for walks -/
def D.items1 : D → Option (List D)
  | .lst xs => some xs
  | .tup xs => some xs
  | .scr ns => some (ns.map .int)
  | _ => none
def D.items : D → Option (List D)
  | .lst xs => some xs
  | .tup xs => some xs
  | _ => none
def starD (f : Bool) (d : D) : Option (List D) := if f then d.items else some [d]
def itD : ItK → List D → Option (List D)
  | .val, [d] => d.items1
  | .rng, ds => rng? (2 ^ 62) ds
  | .enum, [d] => d.items.map fun xs => xs.zipIdx.map fun p => .tup [.int (p.2 : Nat), p.1]
  | .zip, [d, e] => d.items.bind fun xs => e.items.map fun ys => (xs.zip ys).map fun p => .tup [p.1, p.2]
  | .rev, [d] => d.items.map (·.reverse)
  | _, _ => none
/-- a list (false) or a tuple (true) -/
def isSq : D → Option Bool
  | .lst _ => some false
  | .tup _ => some true
  | _ => none
def idxI (xs : List D) (y : D) : Option Vl := if y.plain && D.plains xs && SeqAt.shaped y.py && SeqAt.shaped (.list (D.pys xs)) then (xs.findIdx? fun z => PyData.eqv z.py y.py).map fun j => .fz (.int (j : Nat)) else none
def idxD : Bool → D → D → Option Vl
  | false, .lst xs, y => idxI xs y
  | true, .tup xs, y => idxI xs y
  | _, _, _ => none
def isOw (ρ : Rho) (i : Nat) : Bool := match ρ[i]? with
  | some (some (.ow _)) => true
  | _ => false
def ow? (ρ : Rho) (i : Nat) : Option (List D) := match ρ[i]? with
  | some (some (.ow xs)) => some xs
  | _ => none
def lst? : D → Option (List D)
  | .lst ys => some ys
  | _ => none
def int? : D → Option Int
  | .int j => some j
  | _ => none
def D.fldD : D → Str → Option D
  | .obj _ fs, f => fs.lookup f
  | _, _ => none
/-- what stands at the two ends of a tuple of values -/
def setAll : List Nat → List D → Rho → Option Rho
  | [], [], ρ => some ρ
  | i :: is, d :: ds, ρ => setAll is ds (ρ.set i (some (.fz d)))
  | _, _, _ => none
def tgD : Tg → D → Rho → Option Rho
  | .nm i, d, ρ => some (ρ.set i (some (.fz d)))
  | .tp is, .tup ds, ρ => setAll is ds ρ
  | .tp is, .lst ds, ρ => setAll is ds ρ
  | .tp _, _, _ => none
def wipeR : Rho → List Nat → Rho
  | ρ, [] => ρ
  | ρ, v :: vs => (wipeR ρ vs).set v none
/-- the slots vs as they stood in ρ -/
def backR (ρ : Rho) : Rho → List Nat → Rho
  | ρ', [] => ρ'
  | ρ', v :: vs => (backR ρ ρ' vs).set v (ρ.getD v none)
def Src.get (s : Src) : SK → Int
  | .left => s.left
  | .mixed => s.mixed
  | .turn => s.turn
def Src.put (s : Src) (n : Int) : SK → Src
  | .left => { s with left := n }
  | .mixed => { s with mixed := n }
  | .turn => { s with turn := n }
def mkS (c l m t : Vl) (S : So) : Option Src := match c, l, m, t, S with
  | .ow xs, .fz (.int l), .fz (.int m), .fz (.int t), none => (ints? xs).map fun is => ⟨is, l, m, t, []⟩
  | _, _, _, _, _ => none
/-! ### dicts that change -/
def keyG (k : Key) : List (Key × D) → Option D
  | [] => none
  | (k', d) :: r => if k' = k then some d else keyG k r
def keyK? : D → Option Key
  | .int i => some (.inl i)
  | .str s => some (.inr s)
  | _ => none
def keysK? : List D → Option (List Key)
  | [] => some []
  | d :: ds => (keyK? d).bind fun k => (keysK? ds).map (k :: ·)
def keyM? : D → Option (List Key)
  | .tup ds => keysK? ds
  | _ => none
def kD : Key → D
  | .inl i => .int i
  | .inr s => .str s
def memG : Mem → List Key → Option Mv
  | [], _ => none
  | q :: r, k => if q.1 = k then some q.2 else memG r k
def memR (k : List Key) (v : Mv) : Mem → Mem
  | [] => []
  | q :: r => (if q.1 = k then (q.1, v) else q) :: memR k v r
def memP (m : Mem) (k : List Key) (v : Mv) : Mem := if (memG m k).isSome then memR k v m else m ++ [(k, v)]
/-- the dict that d stands for -/
def memI? : D → So → Option (Nat × Mem × Src)
  | .mem i, some s => (s.mem[i]?).map fun m => (i, m, s)
  | _, _ => none
def mv? : D → Option Mv
  | .int i => some (.int i)
  | .bl b => some (.bl b)
  | _ => none
def memK (m : Mem) : List D := m.map fun q => .tup (q.1.map kD)
def newM : So → Option (Nat × Src)
  | some s => some (s.mem.length, { s with mem := s.mem ++ [[]] })
  | none => none
/-- a dict with written keys, asked by an int -/
def kixD : D → D → Option D
  | .dic kvs, .int i => keyG (.inl i) kvs
  | _, _ => none
def dicK : D → Bool
  | .dic _ => true
  | _ => false
def kgetD : D → D → D → Option D
  | .dic kvs, .int i, x => some ((keyG (.inl i) kvs).getD x)
  | _, _, _ => none
/-! ### evaluation -/
structure Cal where
  call : Fn → List D → So → Rc
  fuel : Nat
inductive Opd | sl (i : Nat) | vl (d : D)
def slD? (ρ : Rho) (i : Nat) : Option D := match ρ[i]? with
  | some (some v) => some v.d
  | _ => none
/-- slot i holds the source -/
def src? (ρ : Rho) (i : Nat) (S : So) : Option Src := match slD? ρ i, S with
  | some .src, some s => some s
  | _, _ => none
def Opd.get (ρ : Rho) : Opd → Option D
  | .sl i => slD? ρ i
  | .vl d => some d
/-- an operand: a name is looked at when the operation is done -/
def lift {α : Type} (r : Option α) (ρ : Rho) (S : So) : Rs α := match r with
  | some a => .ok a ρ S
  | none => .no
def opd (e : E) (ρ : Rho) (S : So) (r : Rs Vl) : Rs Opd := match e with
  | .var i => (lift (slD? ρ i) ρ S).bind fun _ ρ S => .ok (.sl i) ρ S
  | _ => r.bind fun v ρ S => .ok (.vl v.d) ρ S
/-- a slice's part: .non is one that is left out -/
def part (e : E) (ρ : Rho) (S : So) (r : Rs Vl) : Rs (Option Int) := match e with
  | .non => .ok none ρ S
  | _ => r.bind fun v ρ S => match v with
    | .fz (.int i) => .ok (some i) ρ S
    | _ => .no
def getO (ρ : Rho) : List Opd → Option (List D)
  | [] => some []
  | x :: xs => (x.get ρ).bind fun d => (getO ρ xs).map (d :: ·)
/-- behind a call whose arguments were lent -/
def lent (ρ : Rho) : Rc → Rs Vl
  | .ok v S => if v.noL then .ok v ρ S else .no
  | _ => .no
def Rc.rs' (r : Rc) (ρ : Rho) : Rs Vl := match r with
  | .ok v S => .ok v ρ S
  | .rs x S => .rs x ρ S
  | .no => .no
/-- a truth value -/
def tru (r : Rs Vl) : Rs Bool := r.bind fun v ρ S => match v with
  | .fz (.bl b) => .ok b ρ S
  | _ => .no
def vbool (b : Bool) : Vl := .fz (.bl b)
/-- the turns of a comprehension -/
def cmpl (turn : D → Rho → So → Rs (Option D)) (own : List Nat) : List D → List D → Rho → So → Rs (List D)
  | [], acc, ρ, S => .ok acc ρ S
  | x :: xs, acc, ρ, S => match turn x (wipeR ρ own) S with
    | .ok none ρ S => cmpl turn own xs acc ρ S
    | .ok (some d) ρ S => if acc.length < lim then cmpl turn own xs (acc ++ [d]) ρ S else .no
    | _ => .no
/-- the method m of an instance -/
def recv : D → Str → Option Fn
  | .obj c fs, m => if (fs.lookup m).isNone then some (.m c m) else none
  | _, _ => none
def keyD (k : Str) : D → Option Vl
  | .dic kvs => (keyG (.inr k) kvs).map .fz
  | _ => none
def isObj (c : Nat) : Vl → Bool
  | .fz (.obj c' _) => c' == c
  | _ => false
/-- behind the arguments of a method -/
def argsOk (r : Rs (List D)) (f : List D → Rho → So → Rs Vl) : Rs Vl := match r with
  | .ok ds ρ S => f ds ρ S
  | _ => .no
mutual
def ev (C : Cal) : E → Rho → So → Rs Vl
  | .var i, ρ, S => match ρ[i]? with
    | some (some (.fz d)) => .ok (.fz d) ρ S
    | some (some (.ow xs)) => .ok (.fz (.lst xs)) (ρ.set i (some (.fz (.lst xs)))) S
    | _ => .no
  | .int i, ρ, S => .ok (.fz (.int i)) ρ S
  | .bl b, ρ, S => .ok (.fz (.bl b)) ρ S
  | .non, ρ, S => .ok (.fz .non) ρ S
  | .str s, ρ, S => .ok (.fz (.str s)) ρ S
  | .tup es, ρ, S => (evs C es ρ S).bind fun ds ρ S => if ds.length ≤ lim then .ok (.fz (.tup ds)) ρ S else .no
  | .lst es, ρ, S => (evs C es ρ S).bind fun ds ρ S => if ds.length ≤ lim then .ok (.ow ds) ρ S else .no
  | .std t fs es, ρ, S => (evS C es fs ρ S).bind fun ds ρ S => if ds.length ≤ lim then .ok (if t then .fz (.tup ds) else .ow ds) ρ S else .no
  | .bin op a b, ρ, S => (opd a ρ S (ev C a ρ S)).bind fun x ρ S => (opd b ρ S (ev C b ρ S)).bind fun y ρ S =>
      lift ((x.get ρ).bind fun x => (y.get ρ).bind fun y => binD op x y) ρ S
  | .neg a, ρ, S => (ev C a ρ S).bind fun v ρ S => match v with
    | .fz (.int i) => .ok (.fz (.int (-i))) ρ S
    | _ => .no
  | .not a, ρ, S => (tru (ev C a ρ S)).bind fun b ρ S => .ok (vbool !b) ρ S
  | .and a b, ρ, S => (tru (ev C a ρ S)).bind fun c ρ S => if c then ev C b ρ S else .ok (vbool false) ρ S
  | .or a b, ρ, S => (tru (ev C a ρ S)).bind fun c ρ S => if c then .ok (vbool true) ρ S else ev C b ρ S
  | .cmp op a b, ρ, S => (opd a ρ S (ev C a ρ S)).bind fun x ρ S => (opd b ρ S (ev C b ρ S)).bind fun y ρ S =>
      (lift ((x.get ρ).bind fun x => (y.get ρ).bind fun y => cmpD op x y) ρ S).bind fun b ρ S => .ok (vbool b) ρ S
  | .chn op op2 a b c, ρ, S => (opd a ρ S (ev C a ρ S)).bind fun x ρ S => (opd b ρ S (ev C b ρ S)).bind fun y ρ S =>
      (lift ((x.get ρ).bind fun x => (y.get ρ).bind fun y => cmpD op x y) ρ S).bind fun q ρ S =>
        if q then (opd c ρ S (ev C c ρ S)).bind fun z ρ S =>
          (lift ((y.get ρ).bind fun y => (z.get ρ).bind fun z => cmpD op2 y z) ρ S).bind fun b ρ S => .ok (vbool b) ρ S
        else .ok (vbool false) ρ S
  | .ife c a b, ρ, S => (tru (ev C c ρ S)).bind fun q ρ S => if q then ev C a ρ S else ev C b ρ S
  | .ix a i, ρ, S => (opd a ρ S (ev C a ρ S)).bind fun x ρ S => (opd i ρ S (ev C i ρ S)).bind fun y ρ S =>
      lift ((x.get ρ).bind fun x => (y.get ρ).bind fun y => ixD x y) ρ S
  | .sl a lo hi, ρ, S => (opd a ρ S (ev C a ρ S)).bind fun x ρ S => (part lo ρ S (ev C lo ρ S)).bind fun l ρ S => (part hi ρ S (ev C hi ρ S)).bind fun h ρ S =>
      lift ((x.get ρ).bind fun x => slD x l h) ρ S
  | .rev a, ρ, S => (opd a ρ S (ev C a ρ S)).bind fun x ρ S => lift ((x.get ρ).bind revD) ρ S
  | .comp elt tg k args cond own, ρ, S => (evs C args ρ S).bind fun ds ρ S => (lift (itD k ds) ρ S).bind fun items ρ S =>
      (cmpl (fun x ρ S => (lift (tgD tg x ρ) ρ S).bind fun ρ1 _ S => (tru (ev C cond ρ1 S)).bind fun q ρ S =>
          if q then (ev C elt ρ S).bind fun v ρ S => .ok (some v.d) ρ S else .ok none ρ S)
        own items [] ρ S).bind fun acc ρ' S => .ok (.ow acc) (backR ρ ρ' own) S
  | .call f args, ρ, S => (evs C args ρ S).bind fun ds ρ S => (C.call (.f f) ds S).rs' ρ
  | .bcall f args, ρ, S => (evO C args ρ S).bind fun xs ρ S => (lift (getO ρ xs) ρ S).bind fun ds ρ S => lent ρ (C.call (.f f) ds S)
  | .meth m o args, ρ, S => (ev C o ρ S).bind fun v ρ S => (lift (recv v.d m) ρ S).bind fun f ρ S => argsOk (evs C args ρ S) fun ds ρ S => (C.call f (v.d :: ds) S).rs' ρ
  | .dic ks es, ρ, S => (evs C es ρ S).bind fun ds ρ S => if ks.length = ds.length ∧ ks.Nodup ∧ ks.length ≤ 15 then .ok (.fz (.dic (ks.zip ds))) ρ S else .no
  | .key a k, ρ, S => (opd a ρ S (ev C a ρ S)).bind fun x ρ S => lift ((x.get ρ).bind (keyD k)) ρ S
  | .make c args, ρ, S => (evs C args ρ S).bind fun ds ρ S => ((C.call (.mk c) ds S).rs' ρ).bind fun v ρ S => if isObj c v then .ok v ρ S else .no
  | .b1 b a, ρ, S => (opd a ρ S (ev C a ρ S)).bind fun x ρ S => lift ((x.get ρ).bind (b1D b)) ρ S
  | .b2 b a c, ρ, S => (ev C a ρ S).bind fun x ρ S => (ev C c ρ S).bind fun y ρ S => lift (b2D b x.d y.d) ρ S
  | .isi ts a, ρ, S => (opd a ρ S (ev C a ρ S)).bind fun x ρ S => (lift ((x.get ρ).bind (isaD ts)) ρ S).bind fun b ρ S => .ok (vbool b) ρ S
  | .trng args, ρ, S => (evs C args ρ S).bind fun ds ρ S => (lift (rng? (2 ^ 62) ds) ρ S).bind fun xs ρ S => if xs.length ≤ lim then .ok (.fz (.tup xs)) ρ S else .no
  | .lrng args, ρ, S => (evs C args ρ S).bind fun ds ρ S => (lift (rng? (2 ^ 62) ds) ρ S).bind fun xs ρ S => if xs.length ≤ lim then .ok (.ow xs) ρ S else .no
  | .fld o f, ρ, S => (ev C o ρ S).bind fun v ρ S => (lift (v.d.fldD f) ρ S).bind fun d ρ S => .ok (.fz d) ρ S
  | .pop0 i, ρ, S => (lift (ow? ρ i) ρ S).bind fun xs ρ S => (lift (xs[xs.length - 1]?) ρ S).bind fun d ρ S => .ok (.fz d) (ρ.set i (some (.ow xs.dropLast))) S
  | .pop i e, ρ, S => if isOw ρ i then (ev C e ρ S).bind fun v ρ S => (lift (ow? ρ i) ρ S).bind fun xs ρ S => (lift (int? v.d) ρ S).bind fun j ρ S => (lift (ixN xs.length j) ρ S).bind fun j ρ S =>
      (lift (xs[j]?) ρ S).bind fun d ρ S => .ok (.fz d) (ρ.set i (some (.ow (xs.eraseIdx j)))) S
    else .no
  | .mks c l m t, ρ, S => (ev C c ρ S).bind fun vc ρ S => (ev C l ρ S).bind fun vl ρ S => (ev C m ρ S).bind fun vm ρ S => (ev C t ρ S).bind fun vt ρ S => (lift (mkS vc vl vm vt S) ρ S).bind fun s ρ _ => .ok (.fz .src) ρ (some s)
  | .sget i k, ρ, S => (lift (src? ρ i S) ρ S).bind fun s ρ S => .ok (.fz (.int (s.get k))) ρ S
  | .slen i, ρ, S => (lift (src? ρ i S) ρ S).bind fun s ρ S => .ok (.fz (.int s.cells.length)) ρ S
  | .spop i, ρ, S => (lift (src? ρ i S) ρ S).bind fun s ρ S => (lift (s.cells[s.cells.length - 1]?) ρ S).bind fun n ρ _ => .ok (.fz (.int n)) ρ (some { s with cells := s.cells.dropLast })
  | .index a b, ρ, S => (opd a ρ S (ev C a ρ S)).bind fun x ρ S => (lift ((x.get ρ).bind isSq) ρ S).bind fun t ρ S => (ev C b ρ S).bind fun y ρ S => lift ((x.get ρ).bind fun x => idxD t x y.d) ρ S
  | .irg neg a e, ρ, S => (ev C a ρ S).bind fun v ρ S => (ev C e ρ S).bind fun w ρ S => (lift (irgD neg v.d w.d) ρ S).bind fun b ρ S => .ok (vbool b) ρ S
  | .dnew, ρ, S => (lift (newM S) ρ S).bind fun q ρ _ => .ok (.fz (.mem q.1)) ρ (some q.2)
  | .din neg a o, ρ, S => (ev C a ρ S).bind fun v ρ S => (ev C o ρ S).bind fun u ρ S => (lift (memI? u.d S) ρ S).bind fun q ρ S => (lift (keyM? v.d) ρ S).bind fun k ρ S => .ok (vbool ((memG q.2.1 k).isSome != neg)) ρ S
  | .dget o a, ρ, S => (ev C o ρ S).bind fun u ρ S => (ev C a ρ S).bind fun v ρ S => (lift (memI? u.d S) ρ S).bind fun q ρ S => (lift (keyM? v.d) ρ S).bind fun k ρ S => (lift (memG q.2.1 k) ρ S).bind fun x ρ S => .ok (.fz x.d) ρ S
  | .dkeys o, ρ, S => (ev C o ρ S).bind fun u ρ S => (lift (memI? u.d S) ρ S).bind fun q ρ S => .ok (.ow (memK q.2.1)) ρ S
  | .kix a i, ρ, S => (ev C a ρ S).bind fun u ρ S => (ev C i ρ S).bind fun v ρ S => (lift (kixD u.d v.d) ρ S).bind fun d ρ S => .ok (.fz d) ρ S
  | .kget a i x, ρ, S => (ev C a ρ S).bind fun u ρ S => if dicK u.d then (ev C i ρ S).bind fun v ρ S => (ev C x ρ S).bind fun y ρ S => (lift (kgetD u.d v.d y.d) ρ S).bind fun d ρ S => .ok (.fz d) ρ S else .no
def evs (C : Cal) : List E → Rho → So → Rs (List D)
  | [], ρ, S => .ok [] ρ S
  | e :: es, ρ, S => (ev C e ρ S).bind fun v ρ S => (evs C es ρ S).bind fun ds ρ S => .ok (v.d :: ds) ρ S
/-- items, some of them starred -/
def evS (C : Cal) : List E → List Bool → Rho → So → Rs (List D)
  | [], _, ρ, S => .ok [] ρ S
  | _ :: _, [], _, _ => .no
  | e :: es, f :: fs, ρ, S => (ev C e ρ S).bind fun v ρ S => (lift (starD f v.d) ρ S).bind fun xs ρ S => (evS C es fs ρ S).bind fun ds ρ S => .ok (xs ++ ds) ρ S
/-- operands -/
def evO (C : Cal) : List E → Rho → So → Rs (List Opd)
  | [], ρ, S => .ok [] ρ S
  | e :: es, ρ, S => (opd e ρ S (ev C e ρ S)).bind fun x ρ S => (evO C es ρ S).bind fun xs ρ S => .ok (x :: xs) ρ S
end
/-! ### statements -/
inductive Rst where
  | nx (ρ : Rho) (S : So) | rt (v : Vl) (ρ : Rho) (S : So) | bk (ρ : Rho) (S : So) | ct (ρ : Rho) (S : So) | rs (x : Exc) (ρ : Rho) (S : So) | no
def Rs.st {α : Type} (r : Rs α) (f : α → Rho → So → Rst) : Rst := match r with
  | .ok a ρ S => f a ρ S
  | .rs x ρ S => .rs x ρ S
  | .no => .no
def Rst.then (r : Rst) (f : Rho → So → Rst) : Rst := match r with
  | .nx ρ S => f ρ S
  | r => r
/-- a turn's end -/
def Rst.turn (r : Rst) (again : Rho → So → Rst) : Rst := match r with
  | .nx ρ S => again ρ S
  | .ct ρ S => again ρ S
  | .bk ρ S => .nx ρ S
  | r => r
def forL (tg : Tg) (bd : Rho → So → Rst) : List D → Rho → So → Rst
  | [], ρ, S => .nx ρ S
  | x :: xs, ρ, S => (lift (tgD tg x ρ) ρ S).st fun ρ _ S => (bd ρ S).turn (forL tg bd xs)
def whlF (t : Rho → So → Rs Bool) (bd : Rho → So → Rst) : Nat → Rho → So → Rst
  | 0, _, _ => .no
  | n + 1, ρ, S => (t ρ S).st fun b ρ S => if b then (bd ρ S).turn (whlF t bd n) else .nx ρ S
/-- name = value, the value kept as it is in flight -/
def asgV : Tg → Vl → Rho → Option Rho
  | .nm i, v, ρ => some (ρ.set i (some v))
  | t, v, ρ => tgD t v.d ρ
def setVs : List Nat → List Vl → Rho → Option Rho
  | [], [], ρ => some ρ
  | i :: is, v :: vs, ρ => setVs is vs (ρ.set i (some v))
  | _, _, _ => none
def evV (C : Cal) : List E → Rho → So → Rs (List Vl)
  | [], ρ, S => .ok [] ρ S
  | e :: es, ρ, S => (ev C e ρ S).bind fun v ρ S => (evV C es ρ S).bind fun vs ρ S => .ok (v :: vs) ρ S
def augD : Bop → D → D → Option D
  | .add, .int i, .int j => some (.int (i + j))
  | .sub, .int i, .int j => some (.int (i - j))
  | .mul, .int i, .int j => ok? (decide (mulOk i j)) (.int (i * j))
  | .fdiv, .int i, .int j => ok? (decide (divOk j)) (.int (i / j))
  | _, _, _ => none
/-- return e: a name's list goes out as it is held -/
def evR (C : Cal) (e : E) (ρ : Rho) (S : So) : Rs Vl := match e with
  | .var i => (match ρ[i]? with
    | some (some v) => .ok v ρ S
    | _ => .no)
  | _ => ev C e ρ S
def D.isT : D → Bool
  | .tup _ => true
  | _ => false
def haD (x : Exc) : HA → Option D
  | .bl b => some (.bl b)
  | .non => some .non
  | .str s => some (.str s)
  | .fld f => x.fs.lookup f
def haDs (x : Exc) : List HA → Option (List D)
  | [] => some []
  | a :: as => (haD x a).bind fun d => (haDs x as).map (d :: ·)
def heV (x : Exc) : HE → Option Vl
  | .one a => (haD x a).map .fz
  | .lst as => if as.length ≤ 100 then (haDs x as).map .ow else none
  | .tup as => if as.length ≤ 100 then (haDs x as).map fun ds => .fz (.tup ds) else none
def nmOk : Option Nat → Rho → Bool
  | none, _ => true
  | some n, ρ => decide (n < ρ.length)
def unN : Option Nat → Rho → Rho
  | none, ρ => ρ
  | some n, ρ => ρ.set n none
/-- an except suite -/
def hsR (x : Exc) : HS → Rho → So → Rst
  | .ret e, ρ, S => (match heV x e with
    | some v => .rt v ρ S
    | none => .no)
  | .retn, ρ, S => .rt (.fz .non) ρ S
  | .asg i e, ρ, S => (match heV x e with
    | some v => .nx (ρ.set i (some v)) S
    | none => .no)
/-- behind the suite the name is gone -/
def Rst.unb (nm : Option Nat) : Rst → Rst
  | .nx ρ S => .nx (unN nm ρ) S
  | r => r
def Rst.hdl (cs ns : List Nat) (nm : Option Nat) (h : HS) : Rst → Rst
  | .rs x ρ S => if cs.contains x.c && nmOk nm ρ then (hsR x h (unN nm ρ) S).unb nm else if ns.contains x.c then .rs x ρ S else .no
  | r => r
mutual
def exs (C : Cal) : List S → Rho → So → Rst
  | [], ρ, S => .nx ρ S
  | s :: r, ρ, S => (ex C s ρ S).then (exs C r)
def ex (C : Cal) : S → Rho → So → Rst
  | .asg t e, ρ, S => (ev C e ρ S).st fun v ρ S => (lift (asgV t v ρ) ρ S).st fun ρ _ S => .nx ρ S
  | .par is es, ρ, S => (evV C es ρ S).st fun vs ρ S => (lift (setVs is vs ρ) ρ S).st fun ρ _ S => .nx ρ S
  | .aug i op e, ρ, S => if isOw ρ i then .no else (lift (slD? ρ i) ρ S).st fun _ ρ S => (ev C e ρ S).st fun v ρ S => (lift ((slD? ρ i).bind fun x => augD op x v.d) ρ S).st fun z ρ S => .nx (ρ.set i (some (.fz z))) S
  | .ite c a b, ρ, S => (tru (ev C c ρ S)).st fun q ρ S => if q then exs C a ρ S else exs C b ρ S
  | .whl c b, ρ, S => whlF (fun ρ S => tru (ev C c ρ S)) (exs C b) C.fuel ρ S
  | .for_ t k args b, ρ, S => (evs C args ρ S).st fun ds ρ S => (lift (itD k ds) ρ S).st fun items ρ S => forL t (exs C b) items ρ S
  | .ret e, ρ, S => (evR C e ρ S).st fun v ρ S => .rt v ρ S
  | .retn, ρ, S => .rt (.fz .non) ρ S
  | .ex e, ρ, S => (ev C e ρ S).st fun _ ρ S => .nx ρ S
  | .app i e, ρ, S => if isOw ρ i then (ev C e ρ S).st fun v ρ S => (lift (ow? ρ i) ρ S).st fun xs ρ S => if xs.length < lim then .nx (ρ.set i (some (.ow (xs ++ [v.d])))) S else .no
    else .no
  | .ext i e, ρ, S => if isOw ρ i then (ev C e ρ S).st fun v ρ S => (lift (ow? ρ i) ρ S).st fun xs ρ S => (lift (lst? v.d) ρ S).st fun ys ρ S => if xs.length + ys.length ≤ lim then .nx (ρ.set i (some (.ow (xs ++ ys)))) S else .no
    else .no
  | .sti i a e, ρ, S => (ev C e ρ S).st fun v ρ S => if isOw ρ i then (ev C a ρ S).st fun j ρ S => (lift (ow? ρ i) ρ S).st fun xs ρ S => (lift (int? j.d) ρ S).st fun j ρ S =>
      (lift (ixN xs.length j) ρ S).st fun j ρ S => .nx (ρ.set i (some (.ow (xs.set j v.d)))) S
    else .no
  | .sw i a j b es, ρ, S => (evs C es ρ S).st fun ds ρ S => match ds with
    | [d1, d2] => if isOw ρ i then (ev C a ρ S).st fun n ρ S => (lift (ow? ρ i) ρ S).st fun xs ρ S => (lift (int? n.d) ρ S).st fun n ρ S => (lift (ixN xs.length n) ρ S).st fun n ρ S =>
        (fun ρ S => if isOw ρ j then (ev C b ρ S).st fun n ρ S => (lift (ow? ρ j) ρ S).st fun xs ρ S => (lift (int? n.d) ρ S).st fun n ρ S => (lift (ixN xs.length n) ρ S).st fun n ρ S => .nx (ρ.set j (some (.ow (xs.set n d2)))) S else .no) (ρ.set i (some (.ow (xs.set n d1)))) S
      else .no
    | _ => .no
  | .sput i k e, ρ, S => (ev C e ρ S).st fun v ρ S => (lift (src? ρ i S) ρ S).st fun s ρ S => (lift (int? v.d) ρ S).st fun n ρ _ => .nx ρ (some (s.put n k))
  | .dput o a e, ρ, S => (ev C e ρ S).st fun v ρ S => (ev C o ρ S).st fun u ρ S => (ev C a ρ S).st fun x ρ S => (lift (memI? u.d S) ρ S).st fun q ρ S => (lift (keyM? x.d) ρ S).st fun k ρ S => (lift (mv? v.d) ρ S).st fun y ρ _ =>
      if q.2.1.length < lim then .nx ρ (some { q.2.2 with mem := q.2.2.mem.set q.1 (memP q.2.1 k y) }) else .no
  | .mov i j, ρ, S => (match ρ[j]? with
    | some (some (.ow xs)) => .nx ((ρ.set j none).set i (some (.ow xs))) S
    | _ => .no)
  | .brk, ρ, S => .bk ρ S
  | .cnt, ρ, S => .ct ρ S
  | .pss, ρ, S => .nx ρ S
  | .nev, _, _ => .no
  | .rse c none _, ρ, S => .rs ⟨c, []⟩ ρ S
  | .rse c (some (f, tp)) e, ρ, S => (ev C e ρ S).st fun v ρ S => if tp && !v.d.isT then .no else .rs ⟨c, [(f, v.d)]⟩ ρ S
  | .try_ b cs ns nm h, ρ, S => (exs C b ρ S).hdl cs ns nm h
end
/-! ### defs -/
structure Fd where
  np : Nat
  ns : Nat
  body : List S
/-- what an __init__ does ahead of the fields: name = e; if c: (what is never done) -/
inductive Pre where
  | let_ (i : Nat) (e : E)
  | chk (c : E)
  | rs (c : E) (b : List S)                               -- if c: raise ..
/-- a class's __init__: np parameters behind self, what it does ahead, the fields that are stored at the end -/
structure Md where
  np : Nat
  ns : Nat
  c : Nat
  pre : List Pre
  fns : List Str
  fes : List E
inductive Ent where
  | fd (d : Fd)
  | md (d : Md)
  | prim (p : List D → So → Rc)
abbrev Tab := Fn → Option Ent
def ini (n : Nat) (ds : List D) : Rho := ds.map (fun d => some (.fz d)) ++ List.replicate (n - ds.length) none
def fin : Rst → Rc
  | .nx _ S => .ok (.fz .non) S
  | .rt v _ S => .ok v S
  | .rs x _ S => .rs x S
  | _ => .no
/-- the slots of an __init__: self stands for nothing -/
def iniM (n : Nat) (ds : List D) : Rho := none :: ini (n - 1) ds
def rsOf {α : Type} : Rst → Rs α
  | .rs x ρ S => .rs x ρ S
  | _ => .no
def preE {α : Type} (C : Cal) (f : Rho → So → Rs α) : List Pre → Rho → So → Rs α
  | [], ρ, S => f ρ S
  | .let_ i e :: r, ρ, S => (ev C e ρ S).bind fun v ρ S => preE C f r (ρ.set i (some v)) S
  | .chk c :: r, ρ, S => (tru (ev C c ρ S)).bind fun q ρ S => if q then .no else preE C f r ρ S
  | .rs c b :: r, ρ, S => (tru (ev C c ρ S)).bind fun q ρ S => if q then rsOf (exs C b ρ S) else preE C f r ρ S
def finM (d : Md) : Rs (List D) → Rc
  | .ok ds _ S => .ok (.fz (.obj d.c (d.fns.zip ds))) S
  | .rs x _ S => .rs x S
  | .no => .no
def callD (Γ : Tab) (fuel : Nat) : Nat → Fn → List D → So → Rc
  | 0, _, _, _ => .no
  | k + 1, f, ds, S => match Γ f with
    | some (.prim p) => p ds S
    | some (.fd d) => if ds.length = d.np then fin (exs ⟨callD Γ fuel k, fuel⟩ d.body (ini d.ns ds) S) else .no
    | some (.md d) => if ds.length = d.np then finM d (preE ⟨callD Γ fuel k, fuel⟩ (evs ⟨callD Γ fuel k, fuel⟩ d.fes) d.pre (iniM d.ns ds) S) else .no
    | none => .no
end VI
set_option Elab.async false
set_option linter.all false
set_option maxRecDepth 100000
set_option maxHeartbeats 2000000
/-! VIb: what stands for a tree; the state; steps. -/
namespace VI
open PySem PySem.Spec PyProof.Rows L2
structure Gl0 where
  K : PySem.W.Frag
  cls : Nat → Addr
  prog : Program
  wd : World
/-- where the source lies, where the dicts that change lie -/
structure Wr where
  src : Option Addr
  mems : List Addr
/-- the record of a tuple that carries no dict -/
def FT (vs : List V) (o : HO) : Prop := ∃ ob : Obj, o = .frz ob (.tup vs) ∧ ob.dict = none
/-- a tuple that carries no dict -/
def TqT (K : PySem.W.Frag) (Φ : Hp) (a : Addr) (vs : List V) : Prop := (∃ o, FT vs o ∧ Φ a = some o) ∨ ∃ (o : Obj) (its : Array Value) (n : Nat), K.lookup a = some o ∧ o.cls = .type "tuple" ∧ o.data = .seq its n ∧ its.size ≤ sizeLine ∧ Vals vs its.toList ∧ o.dict = none
theorem TqT.sq {K : PySem.W.Frag} {Φ : Hp} {a : Addr} {vs : List V} (h : TqT K Φ a vs) : SqT K Φ a vs := by
  rcases h with ⟨o, ⟨ob, rfl, _⟩, e⟩ | ⟨o, its, n, h1, h2, h3, h4, h5, _⟩
  · exact .inl (.inr ⟨ob, e⟩)
  · exact .inr ⟨o, its, n, h1, h2, h3, h4, h5⟩
theorem TqT.of {K : PySem.W.Frag} {Φ : Hp} {a : Addr} {vs : List V} {o : HO} (f : FT vs o) (e : Φ a = some o) : TqT K Φ a vs := .inl ⟨o, f, e⟩
theorem same_tqT {K : PySem.W.Frag} {H H' : Hp} {a : Addr} {xs : List V} (e : Same H H') (h : TqT K H a xs) : TqT K H' a xs := by
  rcases h with ⟨o, f, h⟩ | h
  · exact .inl ⟨o, f, e _ _ h⟩
  · exact .inr h
/-- what isinstance asks of an instance's class; no built-in class is among its bases -/
structure TyC (K : PySem.W.Frag) (C : Addr) : Prop where
  ha : PySem.W.findIn K (.ref C) "__class__" = some (some (.builtin "object.__class__"))
  hn : PySem.W.specialIn K (.builtin "object.__class__") "__get__" = some (some (.builtin "getset_descriptor.__get__"))
  tk : PySem.W.takesIn K (.builtin "object.__class__") = some true
  hm : PySem.W.mroIn K C (.type "object") = some true
  no : ∀ t : Ty, PySem.W.kitOne K (.ref C) (.type t.nm) = some false
/-- what is known of a class whose instances have these fields -/
def ClsK (g : Gl0) (c : Nat) (fs : List Str) : Prop := Cls g.K (g.cls c) ∧ (∀ f ∈ fs, NoAttr g.K (g.cls c) f) ∧ TyC g.K (g.cls c)
mutual
inductive Rp (g : Gl0) (w : Wr) (Φ : Hp) : V → D → Prop
  | non : Rp g w Φ .non .non
  | bl (b : Bool) : Rp g w Φ (.bl b) (.bl b)
  | int (i : Int) : Rp g w Φ (.int i) (.int i)
  | str (s : Str) : Rp g w Φ (.str s) (.str s)
  | tup {a : Addr} {vs : List V} {ds : List D} : TqT g.K Φ a vs → Rps g w Φ vs ds → Rp g w Φ (.ref a) (.tup ds)
  | lst {a : Addr} {vs : List V} {ds : List D} : Φ a = some (.lst vs) → Rps g w Φ vs ds → Rp g w Φ (.ref a) (.lst ds)
  | scr {a : Addr} {ns : List Int} : SqL g.K Φ a (ns.map V.int) → Rp g w Φ (.ref a) (.scr ns)
  | dic {a : Addr} {kvs : List (Key × V)} {ds : List (Key × D)} : Φ a = some (.dK kvs) → RpK g w Φ kvs ds → Rp g w Φ (.ref a) (.dic ds)
  | obj {a dx : Addr} {c : Nat} {fs : List (Str × V)} {ds : List (Str × D)} : Φ a = some (.ins (g.cls c) dx fs) → ClsK g c (fs.map (·.1)) → RpF g w Φ fs ds → Rp g w Φ (.ref a) (.obj c ds)
  | src {a : Addr} : w.src = some a → Rp g w Φ (.ref a) .src
  | mem {a : Addr} {i : Nat} : w.mems[i]? = some a → Rp g w Φ (.ref a) (.mem i)
inductive Rps (g : Gl0) (w : Wr) (Φ : Hp) : List V → List D → Prop
  | nil : Rps g w Φ [] []
  | cons {v : V} {vs : List V} {d : D} {ds : List D} : Rp g w Φ v d → Rps g w Φ vs ds → Rps g w Φ (v :: vs) (d :: ds)
inductive RpK (g : Gl0) (w : Wr) (Φ : Hp) : List (Key × V) → List (Key × D) → Prop
  | nil : RpK g w Φ [] []
  | cons {k : Key} {v : V} {vs : List (Key × V)} {d : D} {ds : List (Key × D)} : Rp g w Φ v d → RpK g w Φ vs ds → RpK g w Φ ((k, v) :: vs) ((k, d) :: ds)
inductive RpF (g : Gl0) (w : Wr) (Φ : Hp) : List (Str × V) → List (Str × D) → Prop
  | nil : RpF g w Φ [] []
  | cons {k : Str} {v : V} {vs : List (Str × V)} {d : D} {ds : List (Str × D)} : Rp g w Φ v d → RpF g w Φ vs ds → RpF g w Φ ((k, v) :: vs) ((k, d) :: ds)
end
theorem same_seqT {K : PySem.W.Frag} {H H' : Hp} {a : Addr} {xs : List V} (e : Same H H') (h : SqT K H a xs) : SqT K H' a xs := by
  rcases h with (h | ⟨o, h⟩) | h
  · exact .inl (.inl (e _ _ h))
  · exact .inl (.inr ⟨o, e _ _ h⟩)
  · exact .inr h
def WSub (w w' : Wr) : Prop := (∀ a, w.src = some a → w'.src = some a) ∧ ∀ (i : Nat) (a : Addr), w.mems[i]? = some a → w'.mems[i]? = some a
theorem WSub.refl (w : Wr) : WSub w w := ⟨fun _ h => h, fun _ _ h => h⟩
theorem WSub.trans {a b c : Wr} (h : WSub a b) (h' : WSub b c) : WSub a c := ⟨fun x e => h'.1 x (h.1 x e), fun i x e => h'.2 i x (h.2 i x e)⟩
section
variable {g : Gl0} {w w' : Wr} {Φ Φ' : Hp}
mutual
theorem Rp.mono (e : Same Φ Φ') (ew : WSub w w') : ∀ {v : V} {d : D}, Rp g w Φ v d → Rp g w' Φ' v d
  | _, _, .non => .non
  | _, _, .bl b => .bl b
  | _, _, .int i => .int i
  | _, _, .str s => .str s
  | _, _, .tup h r => .tup (same_tqT e h) (Rps.mono e ew r)
  | _, _, .lst h r => .lst (e _ _ h) (Rps.mono e ew r)
  | _, _, .scr h => .scr (e.seq h)
  | _, _, .dic h r => .dic (e _ _ h) (RpK.mono e ew r)
  | _, _, .obj h c r => .obj (e _ _ h) c (RpF.mono e ew r)
  | _, _, .src h => .src (ew.1 _ h)
  | _, _, .mem h => .mem (ew.2 _ _ h)
theorem Rps.mono (e : Same Φ Φ') (ew : WSub w w') : ∀ {vs : List V} {ds : List D}, Rps g w Φ vs ds → Rps g w' Φ' vs ds
  | _, _, .nil => .nil
  | _, _, .cons h r => .cons (Rp.mono e ew h) (Rps.mono e ew r)
theorem RpK.mono (e : Same Φ Φ') (ew : WSub w w') : ∀ {vs : List (Key × V)} {ds : List (Key × D)}, RpK g w Φ vs ds → RpK g w' Φ' vs ds
  | _, _, .nil => .nil
  | _, _, .cons h r => .cons (Rp.mono e ew h) (RpK.mono e ew r)
theorem RpF.mono (e : Same Φ Φ') (ew : WSub w w') : ∀ {vs : List (Str × V)} {ds : List (Str × D)}, RpF g w Φ vs ds → RpF g w' Φ' vs ds
  | _, _, .nil => .nil
  | _, _, .cons h r => .cons (Rp.mono e ew h) (RpF.mono e ew r)
end
theorem Rps.length : ∀ {vs : List V} {ds : List D}, Rps g w Φ vs ds → vs.length = ds.length
  | _, _, .nil => rfl
  | _, _, .cons _ r => congrArg Nat.succ (Rps.length r)
theorem Rps.get : ∀ {vs : List V} {ds : List D} {i : Nat} {d : D}, Rps g w Φ vs ds → ds[i]? = some d → ∃ v, vs[i]? = some v ∧ Rp g w Φ v d
  | _, _, _, _, .nil, e => by simp at e
  | _, _, 0, _, .cons h _, e => by simp at e; subst e; exact ⟨_, rfl, h⟩
  | _, _, i + 1, d, .cons _ r, e => by
    obtain ⟨v, h1, h2⟩ := Rps.get (i := i) (d := d) r (by simpa using e)
    exact ⟨v, by simpa using h1, h2⟩
theorem Rps.getV : ∀ {vs : List V} {ds : List D} {i : Nat} {v : V}, Rps g w Φ vs ds → vs[i]? = some v → ∃ d, ds[i]? = some d ∧ Rp g w Φ v d
  | _, _, _, _, .nil, e => by simp at e
  | _, _, 0, _, .cons h _, e => by simp at e; subst e; exact ⟨_, rfl, h⟩
  | _, _, i + 1, v, .cons _ r, e => by
    obtain ⟨d, h1, h2⟩ := Rps.getV (i := i) (v := v) r (by simpa using e)
    exact ⟨d, by simpa using h1, h2⟩
theorem Rps.append : ∀ {vs vs' : List V} {ds ds' : List D}, Rps g w Φ vs ds → Rps g w Φ vs' ds' → Rps g w Φ (vs ++ vs') (ds ++ ds')
  | _, _, _, _, .nil, h => h
  | _, _, _, _, .cons h r, h' => .cons h (Rps.append r h')
theorem Rps.take : ∀ {vs : List V} {ds : List D} (n : Nat), Rps g w Φ vs ds → Rps g w Φ (vs.take n) (ds.take n)
  | _, _, 0, _ => .nil
  | _, _, _ + 1, .nil => .nil
  | _, _, n + 1, .cons h r => .cons h (Rps.take n r)
theorem Rps.drop : ∀ {vs : List V} {ds : List D} (n : Nat), Rps g w Φ vs ds → Rps g w Φ (vs.drop n) (ds.drop n)
  | _, _, 0, r => r
  | _, _, _ + 1, .nil => .nil
  | _, _, n + 1, .cons _ r => Rps.drop n r
theorem Rps.reverse : ∀ {vs : List V} {ds : List D}, Rps g w Φ vs ds → Rps g w Φ vs.reverse ds.reverse
  | _, _, .nil => .nil
  | _, _, .cons h r => by
    rw [List.reverse_cons, List.reverse_cons]
    exact (Rps.reverse r).append (.cons h .nil)
theorem Rps.set {v : V} {d : D} (h : Rp g w Φ v d) : ∀ {vs : List V} {ds : List D} (i : Nat), Rps g w Φ vs ds → Rps g w Φ (vs.set i v) (ds.set i d)
  | _, _, _, .nil => .nil
  | _, _, 0, .cons _ r => .cons h r
  | _, _, i + 1, .cons q r => .cons q (Rps.set h i r)
theorem Rps.eraseIdx : ∀ {vs : List V} {ds : List D} (i : Nat), Rps g w Φ vs ds → Rps g w Φ (vs.eraseIdx i) (ds.eraseIdx i)
  | _, _, _, .nil => .nil
  | _, _, 0, .cons _ r => r
  | _, _, i + 1, .cons q r => .cons q (Rps.eraseIdx i r)
theorem Rps.ints : ∀ {vs : List V} {ds : List D} {is : List Int}, Rps g w Φ vs ds → ints? ds = some is → vs = is.map V.int
  | _, _, _, .nil, e => by cases e; rfl
  | _, _, _, .cons (d := d) h r, e => by
    cases d with
    | int i =>
      cases h
      unfold ints? at e
      cases e2 : ints? _ with
      | none => rw [e2] at e; cases e
      | some js =>
        rw [e2] at e
        cases e
        rw [Rps.ints r e2]
        rfl
    | _ => cases e
theorem Rps.bools : ∀ {vs : List V} {ds : List D} {is : List Bool}, Rps g w Φ vs ds → bools? ds = some is → vs = is.map V.bl
  | _, _, _, .nil, e => by cases e; rfl
  | _, _, _, .cons (d := d) h r, e => by
    cases d with
    | bl i =>
      cases h
      unfold bools? at e
      cases e2 : bools? _ with
      | none => rw [e2] at e; cases e
      | some js =>
        rw [e2] at e
        cases e
        rw [Rps.bools r e2]
        rfl
    | _ => cases e
end
/-! ### what == sees -/
section
variable {g : Gl0} {w : Wr} {H : Hp}
mutual
theorem Rp.dp : ∀ {v : V} {d : D}, Rp g w H v d → d.plain = true → d.py.canLay0 = true → Dp g.K H v d.py
  | _, _, .non, _, _ => by rw [D.py]; exact .non
  | _, _, .bl b, _, _ => by rw [D.py]; exact .bl b
  | _, _, .int i, _, _ => by rw [D.py]; exact .int i
  | _, _, .str s, _, _ => by rw [D.py]; exact .str s
  | _, _, .tup h r, p, c => by
    rw [D.py] at c ⊢
    exact .tup h.sq (Rps.dp r (by rw [D.plain] at p; exact p) (by rw [PyData.canLay0] at c; exact c))
  | _, _, .lst h r, p, c => by
    rw [D.py] at c ⊢
    exact .lst (SqL.of h) (Rps.dp r (by rw [D.plain] at p; exact p) (by rw [PyData.canLay0] at c; exact c))
  | _, _, .scr _, p, _ => by rw [D.plain] at p; cases p
  | _, _, .dic _ _, _, c => by rw [D.py, PyData.canLay0] at c; cases c
  | _, _, .obj _ _ _, p, _ => by rw [D.plain] at p; cases p
  | _, _, .src _, p, _ => by rw [D.plain] at p; cases p
  | _, _, .mem _, p, _ => by rw [D.plain] at p; cases p
theorem Rps.dp : ∀ {vs : List V} {ds : List D}, Rps g w H vs ds → D.plains ds = true → PyData.canLayAll0 (D.pys ds) = true → DpAll g.K H vs (D.pys ds)
  | _, _, .nil, _, _ => by rw [D.pys]; exact .nil
  | _, _, .cons h r, p, c => by
    rw [D.pys] at c ⊢
    rw [D.plains, Bool.and_eq_true] at p
    rw [PyData.canLayAll0, Bool.and_eq_true] at c
    exact .cons (Rp.dp h p.1 c.1) (Rps.dp r p.2 c.2)
end
end
/-! ### the value of an operand, now -/
section
variable {g : Gl0} {w w' : Wr} {Φ Φ' H H' : Hp} {v : V} {d : D}
def Nw (g : Gl0) (w : Wr) (Φ H : Hp) (v : V) (d : D) : Prop := Rp g w Φ v d ∨ ∃ p vs xs, v = .ref p ∧ d = .lst xs ∧ H p = some (.lst vs) ∧ Rps g w Φ vs xs
theorem Nw.int {i : Int} (h : Nw g w Φ H v (.int i)) : v = .int i := by
  rcases h with h | ⟨_, _, _, _, e, _⟩
  · cases h; rfl
  · cases e
theorem Nw.bl {b : Bool} (h : Nw g w Φ H v (.bl b)) : v = .bl b := by
  rcases h with h | ⟨_, _, _, _, e, _⟩
  · cases h; rfl
  · cases e
theorem Nw.str {s : Str} (h : Nw g w Φ H v (.str s)) : v = .str s := by
  rcases h with h | ⟨_, _, _, _, e, _⟩
  · cases h; rfl
  · cases e
theorem Nw.non (h : Nw g w Φ H v .non) : v = .non := by
  rcases h with h | ⟨_, _, _, _, e, _⟩
  · cases h; rfl
  · cases e
theorem Nw.lst (sub : Same Φ H) {xs : List D} (h : Nw g w Φ H v (.lst xs)) : ∃ p vs, v = .ref p ∧ H p = some (.lst vs) ∧ Rps g w Φ vs xs := by
  rcases h with h | ⟨p, vs, ys, e, e2, h, r⟩
  · cases h with
    | lst h r => exact ⟨_, _, rfl, sub _ _ h, r⟩
  · cases e2
    exact ⟨p, vs, e, h, r⟩
theorem Nw.tup (sub : Same Φ H) {xs : List D} (h : Nw g w Φ H v (.tup xs)) : ∃ p vs, v = .ref p ∧ SqT g.K H p vs ∧ TqT g.K Φ p vs ∧ Rps g w Φ vs xs := by
  rcases h with h | ⟨_, _, _, _, e, _⟩
  · cases h with
    | tup h r => exact ⟨_, _, rfl, same_seqT sub h.sq, h, r⟩
  · cases e
theorem Nw.dp (sub : Same Φ H) (h : Nw g w Φ H v d) (p : d.plain = true) (c : d.py.canLay0 = true) : Dp g.K H v d.py := by
  rcases h with h | ⟨q, vs, xs, e, e2, h, r⟩
  · exact Rp.dp (Rp.mono sub (WSub.refl w) h) p c
  · subst e e2
    rw [D.py] at c ⊢
    exact .lst (SqL.of h) (Rps.dp (Rps.mono sub (WSub.refl w) r) (by rw [D.plain] at p; exact p) (by rw [PyData.canLay0] at c; exact c))
theorem Nw.isN (h : Nw g w Φ H v d) : decide (v = V.non) = d.isNon := by
  rcases h with h | ⟨q, vs, xs, e, e2, h, r⟩
  · cases h <;> simp [D.isNon]
  · subst e e2; simp [D.isNon]
end
/-! ### the source, the state -/
structure Wd where
  root : Option (Addr × Addr)
  mems : List Addr
def Wd.w (W : Wd) : Wr := ⟨W.root.map (·.1), W.mems⟩
def Wd.fp (W : Wd) (a : Addr) : Prop := (∃ s c, W.root = some (s, c) ∧ (a = s ∨ a = c)) ∨ a ∈ W.mems
def srcKvs (c : Addr) (s : Src) : List (Key × V) := [(.inr "cells", .ref c), (.inr "left", .int s.left), (.inr "mixed", .int s.mixed), (.inr "turn", .int s.turn)]
def SrcOk0 (W : Wd) (S : So) (Φ H : Hp) : Prop := match W.root, S with
  | none, none => True
  | some (a, c), some s => H a = some (.dK (srcKvs c s)) ∧ H c = some (.lst (s.cells.map V.int)) ∧ Φ a = none ∧ Φ c = none
  | _, _ => False
/-- the object of a dict that changes -/
def memO (g : Gl0) (a : Addr) (xs : List (List Key × Addr × Value)) : HO := .ext (fun h => (a == sysModules) = false ∧ ∃ o es ep, h.get? a = some o ∧ o.ExactDict ∧ o.data = .dict es ep ∧ es.toList = xs.map (entryOfKey (tupleKind (mixKind g.prog g.wd))) ∧ (xs.map (·.1)).Nodup)
def Mv.v : Mv → V
  | .int i => .int i
  | .bl b => .bl b
/-- what it holds: the keys' tuples are known to all -/
def MemR (g : Gl0) (Φ : Hp) (m : Mem) (xs : List (List Key × Addr × Value)) : Prop := Paired (fun (p : List Key × Mv) (q : List Key × Addr × Value) => p.1 = q.1 ∧ TqT g.K Φ q.2.1 (p.1.map kV) ∧ RelV p.2.v q.2.2) m xs
def MemOk (g : Gl0) (Φ H : Hp) (a : Addr) (m : Mem) : Prop := ∃ xs, H a = some (memO g a xs) ∧ MemR g Φ m xs ∧ m.length ≤ sizeLine
def memsOf : So → List Mem
  | some s => s.mem
  | none => []
structure SrcOk (g : Gl0) (W : Wd) (S : So) (Φ H : Hp) : Prop where
  base : SrcOk0 W S Φ H
  len : W.mems.length = (memsOf S).length
  nd : W.mems.Nodup
  mem : ∀ (i : Nat) (a : Addr) (m : Mem), W.mems[i]? = some a → (memsOf S)[i]? = some m → MemOk g Φ H a m ∧ Φ a = none
theorem SrcOk.at_ {g : Gl0} {W : Wd} {S : So} {Φ H : Hp} (q : SrcOk g W S Φ H) {a : Addr} (h : a ∈ W.mems) : ∃ (i : Nat) (m : Mem), W.mems[i]? = some a ∧ (memsOf S)[i]? = some m ∧ MemOk g Φ H a m ∧ Φ a = none := by
  obtain ⟨i, hi⟩ := List.mem_iff_getElem?.mp h
  have hl : i < (memsOf S).length := by rw [← q.len]; exact (List.getElem?_eq_some_iff.mp hi).1
  exact ⟨i, (memsOf S)[i], hi, List.getElem?_eq_getElem hl, q.mem i a _ hi (List.getElem?_eq_getElem hl)⟩
theorem MemR.mono {g : Gl0} {Φ Φ' : Hp} {m : Mem} {xs : List (List Key × Addr × Value)} (e : Same Φ Φ') (r : MemR g Φ m xs) : MemR g Φ' m xs := Paired.mapP r fun _ _ z => ⟨z.1, same_tqT e z.2.1, z.2.2⟩
def SlOk (g : Gl0) (Φ H : Hp) (W : Wd) (x : Option V) : Vl → Prop
  | .fz d => ∃ v, x = some v ∧ Rp g W.w Φ v d
  | .ow xs => ∃ p vs, x = some (.ref p) ∧ H p = some (.lst vs) ∧ Rps g W.w Φ vs xs ∧ Φ p = none ∧ ¬ W.fp p
def Own (ρ : Rho) (σ : L2.St) (p : Addr) : Prop := ∃ (i : Nat) (xs : List D), ρ[i]? = some (some (.ow xs)) ∧ σ[i]? = some (some (.ref p))
structure Stt (g : Gl0) (Φ H : Hp) (W : Wd) (ρ : Rho) (S : So) (σ : L2.St) : Prop where
  sub : Same Φ H
  src : SrcOk g W S Φ H
  len : ρ.length = σ.length
  slot : ∀ (i : Nat) (v : Vl), ρ[i]? = some (some v) → ∃ x, σ[i]? = some x ∧ SlOk g Φ H W x v
  apart : ∀ (i j : Nat) (xs ys : List D) (p : Addr), ρ[i]? = some (some (.ow xs)) → ρ[j]? = some (some (.ow ys)) → σ[i]? = some (some (.ref p)) → σ[j]? = some (some (.ref p)) → i = j
/-- from one moment to a later one; O, O': what slots hold alone -/
structure LS (O : Addr → Prop) (Φ H : Hp) (W : Wd) (O' : Addr → Prop) (Φ' H' : Hp) (W' : Wd) : Prop where
  mono : Same Φ Φ'
  keep : ∀ a o, H a = some o → ¬ W.fp a → ¬ O a → H' a = some o
  frz : ∀ a, H a ≠ none → ¬ O a → Φ' a = Φ a
  wfp : ∀ a, W'.fp a → W.fp a ∨ H a = none
  wsub : WSub W.w W'.w
  live : ∀ a, H a ≠ none → H' a ≠ none
  own : ∀ a, O' a → O a ∨ H a = none
theorem LS.refl {O : Addr → Prop} {Φ H : Hp} {W : Wd} : LS O Φ H W O Φ H W := ⟨Same.refl _, fun _ _ h _ _ => h, fun _ _ _ => rfl, fun _ h => .inl h, WSub.refl _, fun _ h => h, fun _ h => .inl h⟩
theorem LS.trans {O O1 O2 : Addr → Prop} {Φ H Φ1 H1 Φ2 H2 : Hp} {W W1 W2 : Wd} (a : LS O Φ H W O1 Φ1 H1 W1) (b : LS O1 Φ1 H1 W1 O2 Φ2 H2 W2) : LS O Φ H W O2 Φ2 H2 W2 where
  mono := a.mono.trans b.mono
  keep := fun x o h nw no => b.keep x o (a.keep x o h nw no)
    (fun z => (a.wfp x z).elim nw fun e => by rw [h] at e; cases e)
    (fun z => (a.own x z).elim no fun e => by rw [h] at e; cases e)
  frz := fun x h no => (b.frz x (a.live x h) fun z => (a.own x z).elim no h).trans (a.frz x h no)
  wfp := fun x h => (b.wfp x h).elim (a.wfp x) fun e => .inr (by
    cases q : H x with
    | none => rfl
    | some o => exact absurd e (a.live x (by rw [q]; exact fun z => nomatch z)))
  wsub := a.wsub.trans b.wsub
  live := fun x h => b.live x (a.live x h)
  own := fun x h => (b.own x h).elim (a.own x) fun e => .inr (by
    cases q : H x with
    | none => rfl
    | some o => exact absurd e (a.live x (by rw [q]; exact fun z => nomatch z)))
theorem LS.fresh {O O' : Addr → Prop} {Φ H Φ' H' : Hp} {W W' : Wd} (a : LS O Φ H W O' Φ' H' W') {p : Addr} (h : H' p = none) : H p = none := by
  cases q : H p with
  | none => rfl
  | some o => exact absurd h (a.live p (by rw [q]; exact fun z => nomatch z))
section
variable {g : Gl0} {Φ Φ' H H' : Hp} {W W' : Wd} {ρ ρ' : Rho} {S : So} {σ : L2.St} {p : Addr} {o : HO}
theorem same_upd {H : Hp} {p : Addr} {o : HO} (h : H p = none) : Same H (upd H p o) := fun b x e => by
  rw [upd_ne (ne_of_none e h)]
  exact e
theorem Stt.phi (s : Stt g Φ H W ρ S σ) (h : H p = none) : Φ p = none := s.sub.free h
theorem Stt.nfp (s : Stt g Φ H W ρ S σ) (h : H p = none) : ¬ W.fp p := by
  rintro (⟨a, c, e, z⟩ | z)
  · have q := s.src.base
    unfold SrcOk0 at q
    rw [e] at q
    cases S with
    | none => exact q
    | some x =>
      obtain ⟨q1, q2, _⟩ := q
      rcases z with rfl | rfl
      · rw [h] at q1; cases q1
      · rw [h] at q2; cases q2
  · obtain ⟨i, m, _, _, ⟨xs, e, _⟩, _⟩ := s.src.at_ z
    rw [h] at e; cases e
theorem Stt.nown (s : Stt g Φ H W ρ S σ) (h : H p = none) : ¬ Own ρ σ p := by
  rintro ⟨i, xs, e1, e2⟩
  obtain ⟨x, e3, q, vs, e4, e5, _⟩ := s.slot i _ e1
  rw [e2] at e3
  cases e3
  cases e4
  rw [h] at e5; cases e5
theorem SrcOk0.upd (q : SrcOk0 W S Φ H) (h : H p = none) : SrcOk0 W S Φ (L2.upd H p o) := by
  unfold SrcOk0 at q ⊢
  split <;> simp_all
  obtain ⟨q1, q2, _⟩ := q
  exact ⟨(upd_ne (ne_of_none q1 h)).trans q1, (upd_ne (ne_of_none q2 h)).trans q2⟩
theorem SrcOk.upd (q : SrcOk g W S Φ H) (h : H p = none) : SrcOk g W S Φ (L2.upd H p o) :=
  ⟨q.base.upd h, q.len, q.nd, fun i a m h1 h2 => by
    obtain ⟨⟨xs, e, r⟩, n⟩ := q.mem i a m h1 h2
    exact ⟨⟨xs, (upd_ne (ne_of_none e h)).trans e, r⟩, n⟩⟩
theorem SlOk.upd {x : Option V} {v : Vl} (q : SlOk g Φ H W x v) (h : H p = none) : SlOk g Φ (L2.upd H p o) W x v := by
  cases v with
  | fz d => exact q
  | ow xs =>
    obtain ⟨a, vs, e1, e2, r⟩ := q
    exact ⟨a, vs, e1, (upd_ne (ne_of_none e2 h)).trans e2, r⟩
/-- a new object, not yet told to anyone -/
theorem Stt.new (s : Stt g Φ H W ρ S σ) (h : H p = none) : Stt g Φ (upd H p o) W ρ S σ :=
  ⟨s.sub.trans (same_upd h), s.src.upd h, s.len, fun i v e => let ⟨x, e1, q⟩ := s.slot i v e; ⟨x, e1, q.upd h⟩, s.apart⟩
theorem LS.new (s : Stt g Φ H W ρ S σ) (h : H p = none) : LS (Own ρ σ) Φ H W (Own ρ σ) Φ (upd H p o) W :=
  ⟨Same.refl _, fun a u e _ _ => (upd_ne (ne_of_none e h)).trans e, fun _ _ _ => rfl, fun _ z => .inl z, WSub.refl _, fun a z => by
    unfold L2.upd
    split
    · exact fun q => nomatch q
    · exact z, fun _ z => .inl z⟩
/-- what nobody holds alone is told to all: frozen -/
theorem SlOk.frz {x : Option V} {v : Vl} (q : SlOk g Φ H W x v) (h : Φ p = none) (n : ∀ xs vs, v = .ow xs → x = some (.ref p) → H p = some (.lst vs) → False) : SlOk g (L2.upd Φ p o) H W x v := by
  cases v with
  | fz d =>
    obtain ⟨u, e, r⟩ := q
    exact ⟨u, e, r.mono (same_upd h) (WSub.refl _)⟩
  | ow xs =>
    obtain ⟨a, vs, e1, e2, r, e3, e4⟩ := q
    refine ⟨a, vs, e1, e2, r.mono (same_upd h) (WSub.refl _), ?_, e4⟩
    rw [upd_ne]
    · exact e3
    · rintro rfl
      exact n xs vs rfl e1 e2
theorem SrcOk0.frz (q : SrcOk0 W S Φ H) (n : ¬ W.fp p) : SrcOk0 W S (L2.upd Φ p o) H := by
  unfold SrcOk0 at q ⊢
  split <;> simp_all
  rename_i a c s _ _
  obtain ⟨_, _, q3, q4⟩ := q
  refine ⟨?_, ?_⟩
  · rw [upd_ne]
    · exact q3
    · rintro rfl; exact n (.inl ⟨_, _, by assumption, .inl rfl⟩)
  · rw [upd_ne]
    · exact q4
    · rintro rfl; exact n (.inl ⟨_, _, by assumption, .inr rfl⟩)
theorem SrcOk.frz (q : SrcOk g W S Φ H) (n : ¬ W.fp p) (h : Φ p = none) : SrcOk g W S (L2.upd Φ p o) H :=
  ⟨q.base.frz n, q.len, q.nd, fun i a m h1 h2 => by
    obtain ⟨⟨xs, e, r, z⟩, na⟩ := q.mem i a m h1 h2
    refine ⟨⟨xs, e, r.mono (same_upd h), z⟩, ?_⟩
    rw [upd_ne]
    · exact na
    · rintro rfl; exact n (.inr (List.mem_of_getElem? h1))⟩
theorem Stt.frz (s : Stt g Φ H W ρ S σ) (h : Φ p = none) (e : H p = some o) (n : ¬ W.fp p) (no : ¬ Own ρ σ p) : Stt g (upd Φ p o) H W ρ S σ :=
  ⟨fun a u q => by
    by_cases ha : a = p
    · subst ha; rw [upd_same] at q; rw [e]; exact q
    · rw [upd_ne ha] at q; exact s.sub a u q, s.src.frz n h, s.len, fun i v e1 => by
      obtain ⟨x, e2, q⟩ := s.slot i v e1
      refine ⟨x, e2, q.frz h ?_⟩
      rintro xs vs rfl rfl _
      exact no ⟨i, xs, e1, e2⟩, s.apart⟩
theorem LS.frz_ {O : Addr → Prop} (h : Φ p = none) (z : H p = none ∨ O p) : LS O Φ H W O (L2.upd Φ p o) H W :=
  ⟨same_upd h, fun _ _ e _ _ => e, fun a e n => by
    by_cases ha : a = p
    · subst ha; rcases z with z | z
      · exact absurd z e
      · exact absurd z n
    · exact upd_ne ha, fun _ z => .inl z, WSub.refl _, fun _ z => z, fun _ z => .inl z⟩
/-- a new object that is told to all at once -/
theorem Stt.newF (s : Stt g Φ H W ρ S σ) (h : H p = none) : Stt g (upd Φ p o) (upd H p o) W ρ S σ :=
  (s.new h).frz (s.phi h) upd_same (s.nfp h) (s.nown h)
theorem LS.newF (s : Stt g Φ H W ρ S σ) (h : H p = none) : LS (Own ρ σ) Φ H W (Own ρ σ) (upd Φ p o) (upd H p o) W :=
  ⟨same_upd (s.phi h), fun a u e _ _ => (upd_ne (ne_of_none e h)).trans e, fun a e _ => upd_ne fun z => by subst z; exact e h, fun _ z => .inl z, WSub.refl _, fun a z => by
    unfold L2.upd
    split
    · exact fun q => nomatch q
    · exact z, fun _ z => .inl z⟩
end
/-! ### results -/
/-- the value v stands for r in flight; H: the heap at the start -/
def VOk (g : Gl0) (H : Hp) (v : V) (Φ' H' : Hp) (W' : Wd) (O' : Addr → Prop) : Vl → Prop
  | .fz d => Rp g W'.w Φ' v d
  | .ow xs => ∃ p vs, v = .ref p ∧ H' p = some (.lst vs) ∧ Rps g W'.w Φ' vs xs ∧ Φ' p = none ∧ ¬ W'.fp p ∧ ¬ O' p ∧ H p = none
def XOk (g : Gl0) (Φ H : Hp) (W : Wd) (x : Exc) (cls : Value) (d : Option Addr) : Prop := cls = .ref (g.cls x.c) ∧ ((d = none ∧ x.fs = []) ∨ ∃ a fs, d = some a ∧ H a = some (.xd fs) ∧ RpF g W.w Φ fs x.fs)
/-- a relation between what the machine gives and what the evaluator gives, at an end, by the start's heap -/
abbrev Rl (α β : Type) := Hp → β → α → Hp → Hp → Wd → Rho → Prop
/-- Q holds at every end that r allows -/
def Pst (g : Gl0) (Wx : WX) (σ : L2.St) (O : Addr → Prop) (Φ H : Hp) (W : Wd) {α β : Type} (R : Rl α β) (r : Rs α) (Q : β → Hp → Prop) : Prop := match r with
  | .ok a ρ' S' => ∀ (b : β) (Φ' H' : Hp) (W' : Wd), LS O Φ H W (Own ρ' σ) Φ' H' W' → Stt g Φ' H' W' ρ' S' σ → R H b a Φ' H' W' ρ' → Q b H'
  | .rs x ρ' S' => ∀ (c : Value) (d : Option Addr) (Φ' H' : Hp) (W' : Wd), LS O Φ H W (Own ρ' σ) Φ' H' W' → Stt g Φ' H' W' ρ' S' σ → XOk g Φ' H' W' x c d → Wx c d σ H'
  | .no => False
/-- R told at a later start holds at an earlier one -/
def Early {α β : Type} (R : Rl α β) : Prop := ∀ (H H1 : Hp) (b : β) (a : α) (Φ' H' : Hp) (W' : Wd) (ρ' : Rho), (∀ p, H1 p = none → H p = none) → R H1 b a Φ' H' W' ρ' → R H b a Φ' H' W' ρ'
section
variable {g : Gl0} {Wx : WX} {σ : L2.St} {O O1 : Addr → Prop} {Φ H Φ1 H1 : Hp} {W W1 : Wd} {α β γ δ : Type} {R : Rl α β} {R' : Rl γ δ}
theorem Pst.shift {r : Rs α} {Q : β → Hp → Prop} (hR : Early R) (l : LS O Φ H W O1 Φ1 H1 W1) (h : Pst g Wx σ O Φ H W R r Q) : Pst g Wx σ O1 Φ1 H1 W1 R r Q := by
  cases r with
  | ok a ρ' S' => exact fun b Φ' H' W' l' s q => h b Φ' H' W' (l.trans l') s (hR _ _ _ _ _ _ _ _ (fun _ => l.fresh) q)
  | rs x ρ' S' => exact fun c d Φ' H' W' l' s q => h c d Φ' H' W' (l.trans l') s q
  | no => exact h
/-- behind the first part -/
theorem Pst.bind {r : Rs γ} {f : γ → Rho → So → Rs α} {Q : β → Hp → Prop} {Q' : δ → Hp → Prop} (hR : Early R) (h : Pst g Wx σ O Φ H W R (r.bind f) Q)
    (k : ∀ (c : γ) (ρ1 : Rho) (S1 : So) (d : δ) (Φ1 H1 : Hp) (W1 : Wd), r = .ok c ρ1 S1 → LS O Φ H W (Own ρ1 σ) Φ1 H1 W1 → Stt g Φ1 H1 W1 ρ1 S1 σ → R' H d c Φ1 H1 W1 ρ1 → Pst g Wx σ (Own ρ1 σ) Φ1 H1 W1 R (f c ρ1 S1) Q → Q' d H1) : Pst g Wx σ O Φ H W R' r Q' := by
  cases r with
  | ok c ρ1 S1 => exact fun d Φ1 H1 W1 l s q => k c ρ1 S1 d Φ1 H1 W1 rfl l s q (Pst.shift hR l h)
  | rs x ρ' S' => exact h
  | no => exact h
end
def RV (g : Gl0) (σ : L2.St) : Rl Vl V := fun H v r Φ' H' W' ρ' => VOk g H v Φ' H' W' (Own ρ' σ) r
/-- frozen, or an operand that is a name -/
def RO (g : Gl0) (σ : L2.St) : Rl Opd V := fun _ v r Φ' _ W' _ => match r with
  | .sl i => σ[i]? = some (some v)
  | .vl d => Rp g W'.w Φ' v d
def RL (g : Gl0) : Rl (List D) (List V) := fun _ vs ds Φ' _ W' _ => Rps g W'.w Φ' vs ds
def RB : Rl Bool Bool := fun _ b c _ _ _ _ => b = c
theorem early_RV {g : Gl0} {σ : L2.St} : Early (RV g σ) := fun H H1 v r Φ' H' W' ρ' hf q => by
  cases r with
  | fz d => exact q
  | ow xs =>
    obtain ⟨p, vs, e1, e2, e3, e4, e5, e6, e7⟩ := q
    exact ⟨p, vs, e1, e2, e3, e4, e5, e6, hf p e7⟩
theorem early_RO {g : Gl0} {σ : L2.St} : Early (RO g σ) := fun H H1 v r Φ' H' W' ρ' hf q => by cases r <;> exact q
theorem early_RL {g : Gl0} : Early (RL g) := fun _ _ _ _ _ _ _ _ _ q => q
theorem early_RB : Early RB := fun _ _ _ _ _ _ _ _ _ q => q
end VI
set_option Elab.async false
set_option linter.all false
set_option maxRecDepth 100000
set_option maxHeartbeats 4000000
/-! VIA: exceptions of the program's own classes, whose __init__ says super().__init__(text) and stores one field or none: made. -/
namespace VI
open PySem PySem.Spec PyProof.Rows L2 PySem.W
/-- what is known of such a class: C, its __init__ at fI with parameters ps and text body -/
structure SupF (P : Program) (K : PySem.W.Frag) (C fI : Addr) (ps : List Str) (fd : FuncData) (body : List Stmt) (scope : Scope) (cda cc : Addr) : Prop where
  lk : ∃ oc od osl, K.lookup fI = some ⟨oc, od, .func fd, osl⟩
  fd : ∃ name qual params dV kV doc pm an ct, fd = ksFn name qual params body scope dV kV doc pm an (.ref cda) ct cc ∧ codeIn K (.ref cda) qual = true ∧ (∃ ar, (params.posonlyargs ++ params.args).head? = some ar ∧ ps.head? = some ar.arg) ∧
    ∀ us : List Value, us.length = ps.length → bindArgs fd ⟨us, []⟩ = pure (ps.zip us)
  code : ∃ ccl cdd vs ccs file tf, K.lookup cda = some ⟨ccl, cdd, .fields vs, ccs⟩ ∧ vs[2]? = some (.str file tf) ∧ ((P.main.file : Str) == file) = true
  cell : ∃ cl cld csl, K.lookup cc = some ⟨cl, cld, .cell (some (.ref C)), csl⟩
  kind : scope.kind = .function
  co : scope.isCoroutine = false
  gen : scope.isGenerator = false
  noc : ∀ y ∈ scope.names, y.2 ≠ .cell
  par : ∀ x ∈ ps, scope.names.lookup x = some .local
  nd : ps.Nodup
  sup : scope.names.lookup ("super" : Str) = some .globalImplicit
  cls : scope.names.lookup ("__class__" : Str) = some .free
  top : (P.main.scope.names.lookup ("super" : Str)).isSome = false
  glo : nsIn K mainGlobals "super" = some none
  opq : nsIn K cStatics "thirdparty.any" = some none
  mro : mroIn K C (.ref C) = some true
  isB : subIn K (.ref C) (.type "ValueError") = some true
  along : ks_superIn K C C "__init__" = some (some (.builtin "ValueError.__init__"))
abbrev supEnv (qual : Str) (scope : Scope) (L fI cda cc : Addr) : Env := ksEnv qual scope L fI (.ref cda) cc
section
variable {P : Program} {w : World} {A : Around} {E : Value → Shared → Prop} {K : PySem.W.Frag} {mg : Str → Option Value} {base : Heap} {C fI cda cc : Addr} {ps : List Str} {fd : FuncData} {body : List Stmt} {scope : Scope}
/-- what the names hold -/
structure Held (K : PySem.W.Frag) (mg : Str → Option Value) (h : Heap) : Prop where
  kin : K.In h
  glob : h.Ns mainGlobals mg
  blt : ∃ mb, h.Ns builtinsNs mb ∧ ∀ x : Str, x ≠ ("__name__" : Str) → mb x = bootBuiltins x
  nolimit : h.NoLimit
theorem Held.keeps {h h' : Heap} (m : Held K mg h) (k : ∀ b o, h.get? b = some o → h'.get? b = some o) : Held K mg h' := by
  obtain ⟨mb, h1, h2⟩ := m.blt
  exact ⟨m.kin.keeps k, m.glob.keeps k, ⟨mb, h1.keeps k, h2⟩, m.nolimit.keeps k⟩
theorem meth_treeS {o : Expr} {m : Str} {apos pos : Pos} {args : List Expr} {env : Env} (hform : methodCallForm args.length (backTo pos (starEach args env)) [] = true) (hline : (apos.endLine == pos.line) = true) :
    eval (.Call (.Attribute o m apos) args [] pos) env = (do
      let ov ← attributeBase o m env (eval o env)
      standAt apos.atName
      let (f, first) ← holding [ov] (getMethod ov m (do return (← importBound o env).getD true))
      callWith pos f first (backTo pos (starEach args env)) []) := by
  have e0 : eval (.Call (.Attribute o m apos) args [] pos) env = (do
      let ov ← attributeBase o m env (eval o env)
      standAt apos.atName
      methodCall o m apos pos env ov args.length (backTo pos (starEach args env)) []) := by rfl
  have e1 : methodCallPos true o env apos pos = pure pos := by
    unfold methodCallPos
    rw [hline]
    rfl
  rw [e0]
  unfold methodCall
  rw [hform, e1]
  rfl
/-- super().__init__(text) -/
theorem sup_stmt {qual : Str} {L x t0 : Addr} {mL : Str → Option Value} {s : Shared} {bd : List Stmt} {p0 p1 p2 p3 p4 p5 : Pos} {m : Str} {j : Nat} {Q : Flow → Shared → Prop}
    (F : SupF P K C fI ps fd body scope cda cc) (hc : ∃ nm q N bs bm sn sub ab col dd k0 k1 k2 k3 k5, K.lookup C = some (excClassObj nm q C N bs bm true sn sub ab col dd k0 k1 k2 k3 k5 "ValueError.__new__")) (M : Held K mg s.heap)
    (hx : s.heap.get? x = some (PySem.HandSPX.excO C t0)) (hL : s.heap.Ns L mL) (hv : ∀ y, ps.head? = some y → mL y = some (.ref x)) (ck : K.lookup x = none) (hline : (p2.endLine == p4.line) = true)
    (h : ∀ s' t1, (∀ b o, b ≠ x → s.heap.get? b = some o → s'.heap.get? b = some o) → s'.heap.get? x = some (PySem.HandSPX.excO C t1) → s'.gens = s.gens → s'.os = s.os → Q .next s') :
    _root_.PySem.wpAt (model P w) A (.func bd (supEnv qual scope L fI cda cc)) (exec (.Expr (.Call (.Attribute (.Call (.Name "super" p0) [] [] p1) "__init__" p2) [.Constant (.str m) j p3] [] p4) p5) (supEnv qual scope L fI cda cc)) Q E s := by
  obtain ⟨nm, q, N, bs, bm, sn, sub, ab, col, dd, k0, k1, k2, k3, k5, hC⟩ := hc
  obtain ⟨oc, od, osl, lk⟩ := F.lk
  obtain ⟨name, qual', params, dV, kV, doc, pm, an, ct, efd, hcd, ⟨ar, har, hps⟩, hbind⟩ := F.fd
  obtain ⟨ccl, cdd, vs, ccs, file, tf, hcode, hvs, hfile⟩ := F.code
  obtain ⟨cl, cld, csl, hcell⟩ := F.cell
  have X := M.kin
  obtain ⟨mb, hb1, hb2⟩ := M.blt
  have hka : scope.names.lookup ar.arg = some .local := F.par _ (by
    cases ps with
    | nil => cases hps
    | cons y r => cases hps; exact List.mem_cons_self)
  refine ks_wpAt_Expr_any (ks_wpAt_MethodCall (pl := do return (← importBound (.Call (.Name "super" p0) [] [] p1) (supEnv qual scope L fI cda cc)).getD true) ?_ (meth_treeS (by rfl) hline)) (by unfold interactive; rw [show (supEnv qual scope L fI cda cc).scope = scope from rfl, F.kind] <;> rfl) (by rfl)
  have hCh := X _ _ hC
  refine ks_wpAt_super_base (env := supEnv qual scope L fI cda cc) (ar := ar) (fd := fd) F.sup F.cls (by decide) rfl (X _ _ lk) rfl (by rw [efd]; exact har) rfl (X _ _ hcode) rfl hvs hfile F.top ?_
  refine ks_loadName_global F.kind F.sup (Calls.loadGlobal_builtin (env := supEnv qual scope L fI cda cc) M.glob (mg_none_of X M.glob F.glo) hb1 ((hb2 _ (by decide)).trans (by first | boot_by_name | rfl | kernel_rfl)) ⟨rfl, ?_⟩)
  refine wpAny_loadName_free F.kind F.cls (c := cc) (v := .ref C) rfl ⟨_, X _ _ hcell, rfl⟩ ?_
  refine wpAny_loadName_local F.kind hka hL (hv _ hps) ?_
  refine ks_wpAny_isType_cls hCh rfl ⟨rfl, ?_⟩
  obtain ⟨hp, gn, dr, tk, os⟩ := s
  refine ks_wpAny_call_super hCh rfl hx rfl (fun c e => by cases e) (looks_mroIn X F.mro) fun h1 e1 kk1 => ?_
  have X1 := X.keeps kk1
  have hx1 := kk1 _ _ hx
  have hxC : x ≠ C := fun e => by rw [e, hC] at ck; cases ck
  have hcl : clsIn K C = some { name := nm, bases := bs, mro := .ref C :: bm, ns := N, qualname := q, hasDict := true, slotNames := sn, subclasses := sub, abstract := ab, collection := col, hasDel := false } := by unfold clsIn; rw [hC] <;> rfl
  have hal := F.along
  unfold ks_superIn at hal
  rw [hcl] at hal
  have IA : InstAt h1 x (PySem.HandSPX.excO C t0) C none := ⟨hx1, rfl, rfl, trivial⟩
  refine kxs_getMethod kxs_ValueError e1 (looks_opaque X1 F.opq) (l₀ := .ref C :: bm) (fun A Q E s k z => wpAny_bind ((looks_clsIn X1 hcl) A _ E s k (wpAny_pure z))) rfl X1 hal (IA.type.andThen (looks_subIn X1 F.isB)) hxC (by decide) ?_
  have kk2 : ∀ b o, h1.get? b = some o → (h1.push (kxs_mw "ValueError.__init__" x)).get? b = some o := fun b o e => Heap.get?_push_of_some _ e
  have hu : (h1.push (kxs_mw "ValueError.__init__" x)).get? h1.objs.size = some (kxs_mw "ValueError.__init__" x) := Heap.get?_push_size h1 rfl
  refine kxs_callWith (i := "ValueError.__init__") (x := x) rfl ?_
  refine Calls.evalArgs_plain (Calls.spliced_cons (Calls.Constant_str (pos := p3) (k := j) (Calls.spliced_nil ⟨hu, ?_⟩)))
  have hx2 := kk2 _ _ hx1
  have hC2 := kk2 _ _ (kk1 _ _ hCh)
  refine wpAny_call (codeAny_of_tree ?_)
  show wpAny _ A.in1 (callAny (.ref h1.objs.size) ⟨[.str m _], []⟩) _ _ _
  simp only [callAny]
  refine wpAny_bind (wpAny_load hu ?_)
  simp only [kxs_mw, show (Value.type "method-wrapper" == Value.type "method" || Value.type "method-wrapper" == Value.type "builtin_function_or_method" || Value.type "method-wrapper" == Value.type "method-wrapper") = true by decide, if_true]
  refine KFB.if_so (by decide) ?_
  refine wpAny_bind (check_bound_init _root_.PySem.F.excBase_ValueError.toExcCallFacts hC2 hx2 rfl ?_)
  refine wpAny_bind (wpAny_pure (wpAny_pure ?_))
  refine ⟨plainId_quiet _root_.PySem.F.excBase_ValueError.init.plain _, codeAny_builtin _root_.PySem.F.excBase_ValueError.initEntry ?_⟩
  refine exc_init_tree (cls := .ref C) (t0 := t0) (dv := none) (c2 := .none) (c3 := .none) (b4 := .bool false) hx2 (by show 1 ≤ sizeLine; rw [sizeLine_eq]; omega) fun h' k1' e1' e2' => ?_
  exact h _ _ (fun b o hb e => k1' b o hb (kk2 _ _ (kk1 _ _ e))) e1' rfl rfl
end
section
variable {X : Cx} {C fI cda cc : Addr} {ps : List Str} {fd : FuncData} {body : List Stmt} {scope : Scope}
theorem Inv.held {pins : List (Addr × Obj)} {σ : L2.St} {H : Hp} {s : Shared} (I : L2.Inv X pins σ H s) : Held X.K X.mg s.heap := by
  obtain ⟨mb, h1, h2⟩ := I.mod.blt
  exact ⟨I.kIn, I.mod.glob.keeps I.bk, ⟨mb, h1.keeps I.bk, h2⟩, I.mod.nolimit.keeps I.bk⟩
/-- C(): nothing is stored -/
theorem pmk_sup0 {x y m : Str} {j : Nat} {p p0 p1 p2 p3 p4 p5 pos : Pos} (T : OexC X.K C) (iC : findIn X.K (.ref C) "__init__" = some (some (.ref fI))) (tI : typeIn X.K (.ref fI) = some (.type "function"))
    (F : SupF X.prog X.K C fI [y] fd [.Expr (.Call (.Attribute (.Call (.Name "super" p0) [] [] p1) "__init__" p2) [.Constant (.str m) j p3] [] p4) p5] scope cda cc) (hline : (p2.endLine == p4.line) = true)
    (hr : X.A.depth + 3 < recursionLimit) (hg : Gl X x) (hm : X.mg x = some (.ref C)) (hdb : (x == ("__debug__" : Str)) = false) : PMk X (.Call (.Name x p) [] [] pos) (fun _ H Q => Q (.ref C) none H) := by
  intro pins s σ H Q I h
  obtain ⟨nm, q, N, bs, bm, sn, sub, ab, col, dd, k0, k1, k2, k3, k5, hC, hbm⟩ := T.cls
  obtain ⟨oc, od, osl, lk⟩ := F.lk
  obtain ⟨name, qual', params, dV, kV, doc, pm, an, ct, efd, hcd, har, hbind⟩ := F.fd
  refine wpAny_Call_Name_kw (ld_glob I hg hm ?_ hdb)
  refine PySem.W.callWith_K0 I.kIn T.kC ?_
  have M0 := Inv.held I
  have fresh : ∀ n, X.K.lookup (s.heap.objs.size + n) = none := fun n => by
    cases e : X.K.lookup (s.heap.objs.size + n) with
    | none => rfl
    | some o =>
      exact absurd (Heap.lt_size (I.kIn _ _ e)) (Nat.not_lt.mpr (Nat.le_add_right _ _))
  have hfresh : ∀ n, s.heap.get? (s.heap.objs.size + n) = none := fun n => Heap.get?_none_of_le (Nat.le_add_right _ _)
  obtain ⟨hp, g, dr, tk, os⟩ := s
  have kk : ∀ b o, hp.get? b = some o → ((hp.push (PySem.W.kdv_tup [])).push (PySem.HandSPX.excO C hp.objs.size)).get? b = some o := fun b o e => Heap.get?_push_of_some _ (Heap.get?_push_of_some _ e)
  have hget : ((hp.push (PySem.W.kdv_tup [])).push (PySem.HandSPX.excO C hp.objs.size)).get? (hp.objs.size + 1) = some (PySem.HandSPX.excO C hp.objs.size) := by heap_get
  refine wpAny_call (PySem.HandSPX.call_own _root_.PySem.F.excBase_ValueError (fun Y => PySem.HandSPX.refsVE_contains Y bm hbm) (I.kIn _ _ hC) (PySem.W.looks_findIn I.kIn iC) (fun self => PySem.W.bind_fn I.kIn self tI) (Nat.zero_le _) ?_)
  have X2 := I.kIn.keeps kk
  have ho := X2 _ _ lk
  subst efd
  refine ks_codeAny_call_defAt (body := _) (binds := [(y, .ref (hp.objs.size + 1))]) ?_ ho rfl (M0.keeps kk).nolimit (codeRec_of X2 hcd) rfl (BindsTo.of_eq (hbind [.ref (hp.objs.size + 1)] rfl)) F.noc ?_ ?_ F.co F.gen F.kind
  · have e := make_depth (A := X.A) (C := C) (us := []) (kw := [])
    rw [List.append_nil, e]
    omega
  · intro z hz
    rw [List.mem_singleton.mp hz]
    exact F.par _ List.mem_cons_self
  · intro h0 hns k0'
    refine ks_wpAt_execs_cons ?_
    refine sup_stmt F ⟨nm, q, N, bs, bm, sn, sub, ab, col, dd, k0, k1, k2, k3, k5, hC⟩ ((M0.keeps kk).keeps k0') (k0' _ _ hget) hns (fun z hz => by cases hz; simp) (fresh 1) hline fun s' t1 ks es gs oss => ?_
    refine wpAt_of_wpAny (wpAny_execs_nil ⟨rfl, ?_⟩)
    refine ⟨hp.objs.size + 1, _, _, ⟨hp, g, dr, tk, os⟩, H, .ref C, none, rfl, I, fun b o e => ks b o (fun z => by rw [z, hfresh 1] at e; cases e) (k0' _ _ (kk _ _ e)), hfresh 1, es, ⟨rfl, rfl⟩, rfl, rfl, I.hok.fresh (Nat.le_succ _), oss, by rw [gs]; exact I.bare, raises_own T.exC T.tyC, h⟩
theorem lk_fst {y z : Str} {a b : Value} (h : z ≠ y) : ([(y, a), (z, b)] : List (Str × Value)).reverse.lookup y = some a := by
  have e : (y == z) = false := beq_eq_false_iff_ne.mpr h.symm
  show (match y == z with | true => some b | false => (match y == y with | true => some a | false => none)) = some a
  rw [e, beq_self_eq_true]
theorem lk_snd {y z : Str} {a b : Value} : ([(y, a), (z, b)] : List (Str × Value)).reverse.lookup z = some b := by
  show (match z == z with | true => some b | false => _) = some b
  rw [beq_self_eq_true]
/-- what is stored: the argument, or tuple(argument) -/
def StoV (tp : Bool) (z : Str) (ve : Expr) : Prop := match tp with
  | false => ∃ q, ve = .Name z q
  | true => ∃ q q' q'', ve = .Call (.Name "tuple" q) [.Name z q'] [] q''
theorem sto_val {P : Program} {w : World} {A : Around} {E : Value → Shared → Prop} {K : PySem.W.Frag} {mg mL : Str → Option Value} {s : Shared} {env : Env} {z : Str} {ve : Expr} {tp : Bool} {u : Value} {Q : Value → Shared → Prop} (hv : StoV tp z ve) (M : Held K mg s.heap)
    (hk : env.scope.kind = .function) (hg : env.globals = mainGlobals) (hb : env.builtins = builtinsNs) (hz : env.kindOf z = some .local) (hzd : (z == ("__debug__" : Str)) = false) (hL : s.heap.Ns env.locals mL) (hu : mL z = some u)
    (ht : tp = true → env.kindOf "tuple" = some .globalImplicit ∧ nsIn K mainGlobals "tuple" = some none ∧ ∃ a items, u = .ref a ∧ s.heap.IsTuple a items) (h : Q u s) : wpAny (model P w) A (eval ve env) Q E s := by
  cases tp with
  | false =>
    obtain ⟨q, rfl⟩ := hv
    exact wpAny_Name (wpAny_loadName_local hk hz hL hu h) hzd
  | true =>
    obtain ⟨q, q', q'', rfl⟩ := hv
    obtain ⟨h1, h2, a, items, rfl, hi⟩ := ht rfl
    obtain ⟨mb, hb1, hb2⟩ := M.blt
    refine wpAny_Call_Name_kw (Calls.Name_function_global hk h1 (Calls.loadGlobal_builtin (by rw [hg]; exact M.glob) (mg_none_of M.kin M.glob h2) (by rw [hb]; exact hb1) ((hb2 _ (by decide)).trans PyProof.Rows.Boot.«tuple») ?_) (by decide))
    refine PyProof.Rows.callWith_type1 (Calls.spliced_cons (wpAny_Name (wpAny_loadName_local hk hz hL hu (Calls.spliced_nil ?_)) hzd)) (by rfl) (by rfl)
    exact call_tuple_same hi h
/-- C(e): one field is stored -/
theorem pmk_sup1 {x y z m f : Str} {j : Nat} {p p0 p1 p2 p3 p4 p5 pos q0 q1 q2 : Pos} {tp : Bool} {ve e : Expr} {ta : TA} (hve : StoV tp z ve) (T : OexC X.K C) (iC : findIn X.K (.ref C) "__init__" = some (some (.ref fI))) (tI : typeIn X.K (.ref fI) = some (.type "function"))
    (hno : findIn X.K (.ref C) f = some none) (htp : tp = true → scope.names.lookup ("tuple" : Str) = some .globalImplicit ∧ nsIn X.K mainGlobals "tuple" = some none) (hyd : (y == ("__debug__" : Str)) = false) (hzd : (z == ("__debug__" : Str)) = false)
    (F : SupF X.prog X.K C fI [y, z] fd [.Expr (.Call (.Attribute (.Call (.Name "super" p0) [] [] p1) "__init__" p2) [.Constant (.str m) j p3] [] p4) p5, .Assign [.Attribute (.Name y q0) f q1] ve q2] scope cda cc) (hline : (p2.endLine == p4.line) = true)
    (hsw : ∀ env, swapsWith ve (some (.Attribute (.Name y q0) f q1)) q2.line env = pure false)
    (hr : X.A.depth + 3 < recursionLimit) (hg : Gl X x) (hm : X.mg x = some (.ref C)) (hdb : (x == ("__debug__" : Str)) = false) (ha : PA X [e] ta)
    (he : starEach [e] X.env = (false, eval e X.env) :: starEach [] X.env) (hpl : (backTo pos (starEach [] X.env)).any (·.1) = false) : PMk X (.Call (.Name x p) [e] [] pos)
      (fun σ H Q => ta σ H fun vs H1 => ∃ v, vs = [v] ∧ (tp = true → ∃ a ws, v = .ref a ∧ SqT X.K H1 a ws) ∧ ∀ dx, H1 dx = none → Q (.ref C) (some dx) (upd H1 dx (.xd [(f, v)]))) := by
  intro pins s0 σ H0 Q I0 h0
  obtain ⟨nm, q, N, bs, bm, sn, sub, ab, col, dd, k0, k1, k2, k3, k5, hC, hbm⟩ := T.cls
  obtain ⟨oc, od, osl, lk⟩ := F.lk
  obtain ⟨name, qual', params, dV, kV, doc, pm, an, ct, efd, hcd, har, hbind⟩ := F.fd
  refine wpAny_Call_Name_kw (ld_glob I0 hg hm ?_ hdb)
  refine PySem.W.callWith_K (h₀ := X.base) I0.ok.mod.kin T.kC (thn (ha.run pos pins s0 σ H0 _ I0 h0) fun us s ⟨vs, H, I, rv, v, ev, hsq, h⟩ => ⟨I.kIn, ?_⟩) he hpl
  subst ev
  obtain ⟨u, rfl, ru⟩ := vals1 rv
  show wpAny _ _ (call (.ref C) [u]) _ _ _
  have M0 := Inv.held I
  have fresh : ∀ n, X.K.lookup (s.heap.objs.size + n) = none := fun n => by
    cases e : X.K.lookup (s.heap.objs.size + n) with
    | none => rfl
    | some o => exact absurd (Heap.lt_size (I.kIn _ _ e)) (Nat.not_lt.mpr (Nat.le_add_right _ _))
  have hfresh : ∀ n, s.heap.get? (s.heap.objs.size + n) = none := fun n => Heap.get?_none_of_le (Nat.le_add_right _ _)
  have htu : tp = true → ∃ a items, u = .ref a ∧ s.heap.IsTuple a items := fun t => by
    obtain ⟨a, ws, rfl, sq⟩ := hsq t
    obtain rfl : u = Value.ref a := ru
    obtain ⟨its, _, pt, _⟩ := I.tuple sq
    exact ⟨a, _, rfl, pt⟩
  obtain ⟨hp, g, dr, tk, os⟩ := s
  have kk : ∀ b o, hp.get? b = some o → ((hp.push (PySem.W.kdv_tup [u])).push (PySem.HandSPX.excO C hp.objs.size)).get? b = some o := fun b o e => Heap.get?_push_of_some _ (Heap.get?_push_of_some _ e)
  have hget : ((hp.push (PySem.W.kdv_tup [u])).push (PySem.HandSPX.excO C hp.objs.size)).get? (hp.objs.size + 1) = some (PySem.HandSPX.excO C hp.objs.size) := by heap_get
  refine wpAny_call (PySem.HandSPX.call_own _root_.PySem.F.excBase_ValueError (fun Y => PySem.HandSPX.refsVE_contains Y bm hbm) (I.kIn _ _ hC) (PySem.W.looks_findIn I.kIn iC) (fun self => PySem.W.bind_fn I.kIn self tI) (by show 1 ≤ sizeLine; rw [sizeLine_eq]; omega) ?_)
  have X2 := I.kIn.keeps kk
  have ho := X2 _ _ lk
  have hyz : z ≠ y := by
    have := F.nd
    intro e
    rw [e] at this
    simp at this
  subst efd
  refine ks_codeAny_call_defAt (body := _) (binds := [(y, .ref (hp.objs.size + 1)), (z, u)]) ?_ ho rfl (M0.keeps kk).nolimit (codeRec_of X2 hcd) rfl (BindsTo.of_eq (hbind [.ref (hp.objs.size + 1), u] rfl)) F.noc ?_ ?_ F.co F.gen F.kind
  · have e := make_depth (A := X.A) (C := C) (us := [u]) (kw := [])
    exact Nat.lt_of_le_of_lt (Nat.le_of_eq e) (by omega)
  · intro w hw
    rcases List.mem_cons.mp hw with rfl | hw
    · exact F.par _ List.mem_cons_self
    · rw [List.mem_singleton.mp hw]
      exact F.par _ (List.mem_cons_of_mem _ List.mem_cons_self)
  · intro h0 hns k0'
    have hsz : ((hp.push (PySem.W.kdv_tup [u])).push (PySem.HandSPX.excO C hp.objs.size)).objs.size = hp.objs.size + 2 := by rw [Heap.size_push, Heap.size_push]
    refine ks_wpAt_execs_cons ?_
    refine sup_stmt F ⟨nm, q, N, bs, bm, sn, sub, ab, col, dd, k0, k1, k2, k3, k5, hC⟩ ((M0.keeps kk).keeps k0') (k0' _ _ hget) hns (fun w hw => by cases hw; exact lk_fst hyz) (fresh 1) hline fun s' t1 ks es gs oss => ?_
    have kall : ∀ b o, hp.get? b = some o → s'.heap.get? b = some o := fun b o e => ks b o (fun z => by rw [z, hfresh 1] at e; cases e) (k0' _ _ (kk _ _ e))
    have M2 := M0.keeps kall
    have hnsL : s'.heap.Ns ((hp.push (PySem.W.kdv_tup [u])).push (PySem.HandSPX.excO C hp.objs.size)).objs.size (fun w => ([(y, Value.ref (hp.objs.size + 1)), (z, u)] : List (Str × Value)).reverse.lookup w) := by
      obtain ⟨o, es, ep, e1, e2⟩ := hns
      exact ⟨o, es, ep, ks _ _ (fun z => by have z' : ((hp.push (PySem.W.kdv_tup [u])).push (PySem.HandSPX.excO C hp.objs.size)).objs.size = hp.objs.size + 1 := z; rw [hsz] at z'; exact absurd z' (by omega)) e1, e2⟩
    refine ks_wpAt_execs_cons (wpAt_of_wpAny (plainObj_wpAny_Assign_Attribute ?_ (hsw _)))
    refine sto_val hve M2 F.kind rfl rfl (F.par _ (List.mem_cons_of_mem _ List.mem_cons_self)) hzd hnsL lk_snd (fun t => ⟨(htp t).1, (htp t).2, ?_⟩) ?_
    · obtain ⟨a, items, e1, o, e2, e3⟩ := htu t
      exact ⟨a, items, e1, o, kall _ _ e2, e3⟩
    refine wpAny_Name (wpAny_loadName_local F.kind (F.par _ List.mem_cons_self) hnsL (v := .ref (hp.objs.size + 1)) (lk_fst hyz) ?_) hyd
    obtain ⟨hp', g', dr', tk', os'⟩ := s'
    have hcl : clsIn X.K C = some { name := nm, bases := bs, mro := .ref C :: bm, ns := N, qualname := q, hasDict := true, slotNames := sn, subclasses := sub, abstract := ab, collection := col, hasDel := false } := by unfold clsIn; rw [hC] <;> rfl
    refine PySem.W.set_plain M2.kin (ox := PySem.HandSPX.excO C t1) (od := none) ⟨es, rfl, rfl, trivial⟩ T.sa ?_
    refine PySem.HandSPX.exc_osa M2.kin es hcl (show PySem.HandSPX.refsVE (.ref C :: bm) = true from hbm) rfl hno fun h3 tk3 dx k3 dn dne hx3 hn3 => ?_
    refine wpAt_of_wpAny (wpAny_execs_nil ⟨rfl, ?_⟩)
    obtain ⟨G, g1, g2⟩ := restrict h3 fun b => decide (b ≠ hp.objs.size + 1)
    have gk : ∀ b, b ≠ hp.objs.size + 1 → G.get? b = h3.get? b := fun b hb => g1 b (decide_eq_true hb)
    have ge : G.get? (hp.objs.size + 1) = none := g2 _ (by simp)
    have nE : ∀ {b : Addr} {o : Obj}, hp.get? b = some o → b ≠ hp.objs.size + 1 := fun {b o} e z => by rw [z, hfresh 1] at e; cases e
    have kG : ∀ b o, hp.get? b = some o → G.get? b = some o := fun b o e => by
      rw [gk b (nE e)]
      exact k3 b o (nE e) (kall b o e)
    have hs2 : hp.objs.size ≤ dx := Nat.le_trans (Nat.le_trans (Nat.le_succ _) (Nat.le_of_lt (Heap.lt_size es))) dn
    have nd : H dx = none := I.hok.fresh hs2
    have J := I.laid (t' := tk3) (a := dx) (o := .xd [(f, v)]) (h' := G) kG hs2 (by
      obtain ⟨o, es2, ep2, e1, e2⟩ := hn3
      refine ⟨_, ⟨o, es2, ep2, (gk _ dne).trans e1, e2⟩, fun f' => ?_⟩
      rw [lookup_put]
      by_cases hf : f' = f
      · rw [if_pos hf, if_pos hf]
        exact ru
      · rw [if_neg hf, if_neg hf]
        exact True.intro)
    refine ⟨hp.objs.size + 1, _, _, ⟨G, g, dr, tk3, os⟩, _, .ref C, some dx, rfl, J, fun b o e => ?_, ge, hx3, ⟨rfl, rfl⟩, rfl, rfl, ?_, oss, by rw [gs]; exact I.bare, raises_own T.exC T.tyC, h dx nd⟩
    · by_cases hb : b = hp.objs.size + 1
      · rw [hb, ge] at e
        cases e
      · rw [← gk b hb]
        exact e
    · rw [upd_ne (fun z => dne z.symm)]
      exact I.hok.fresh (Nat.le_succ _)
end
end VI
set_option Elab.async false
set_option linter.all false
set_option maxRecDepth 100000
set_option maxHeartbeats 4000000
/-! VIc: expressions without calls of defs: the machine gives what ev gives. -/
namespace VI
open PySem PySem.Spec PyProof.Rows L2
theorem PE.weak {X : Cx} {e : Expr} {t t' : TE} (h : PE X e t) (w : ∀ σ H Q, t' σ H Q → t σ H Q) : PE X e t' := ⟨fun pins s σ H Q I q => h.run pins s σ H Q I (w σ H Q q)⟩
theorem PT.weak {X : Cx} {e : Expr} {t t' : TT} (h : PT X e t) (w : ∀ σ H Q, t' σ H Q → t σ H Q) : PT X e t' := ⟨fun pins s σ H Q I q => h.run pins s σ H Q I (w σ H Q q)⟩
theorem PW.weak {X : Cx} {e : Expr} {t t' : TT} (h : PW X e t) (w : ∀ σ H Q, t' σ H Q → t σ H Q) : PW X e t' := ⟨fun wh pins s σ H Q I q => h.run wh pins s σ H Q I (w σ H Q q)⟩
theorem PA.weak {X : Cx} {e : List Expr} {t t' : TA} (h : PA X e t) (w : ∀ σ H Q, t' σ H Q → t σ H Q) : PA X e t' := ⟨fun pos pins s σ H Q I q => h.run pos pins s σ H Q I (w σ H Q q)⟩
theorem PS.weak {X : Cx} {e : Stmt} {t t' : TS} (h : PS X e t) (w : ∀ D σ H, t' D σ H → t D σ H) : PS X e t' := ⟨fun pins s σ H D I q => h.run pins s σ H D I (w D σ H q)⟩
theorem PSs.weak {X : Cx} {e : List Stmt} {t t' : TS} (h : PSs X e t) (w : ∀ D σ H, t' D σ H → t D σ H) : PSs X e t' := ⟨fun pins s σ H D I q => h.run pins s σ H D I (w D σ H q)⟩
/-- the reading of r: from a state that stands for (ρ, S) -/
def tR (g : Gl0) (Wx : WX) {α β : Type} (R : L2.St → Rl α β) (r : Rho → So → Rs α) : L2.St → Hp → (β → Hp → Prop) → Prop := fun σ H Q =>
  ∃ Φ W ρ S, Stt g Φ H W ρ S σ ∧ Pst g Wx σ (Own ρ σ) Φ H W (R σ) (r ρ S) Q
def tE (g : Gl0) (Wx : WX) (C : Cal) (m : E) : TE := tR g Wx (RV g) (ev C m)
def tO (g : Gl0) (Wx : WX) (C : Cal) (m : E) : TE := tR g Wx (RO g) fun ρ S => opd m ρ S (ev C m ρ S)
def tT (g : Gl0) (Wx : WX) (C : Cal) (m : E) : TT := tR g Wx (fun _ => RB) fun ρ S => tru (ev C m ρ S)
def tA (g : Gl0) (Wx : WX) (C : Cal) (ms : List E) : TA := tR g Wx (fun _ => RL g) (evs C ms)
section
variable {g : Gl0} {Wx : WX} {C : Cal} {σ : L2.St} {O O1 : Addr → Prop} {Φ H Φ1 H1 : Hp} {W W1 : Wd} {ρ ρ1 : Rho} {S S1 : So} {α β γ δ : Type}
theorem LS.told {p : Addr} {o : HO} (l : LS O Φ H W O1 Φ1 H1 W1) (h : H p = none) (h' : Φ1 p = none) : LS O Φ H W O1 (upd Φ1 p o) H1 W1 :=
  ⟨l.mono.trans (same_upd h'), l.keep, fun a e n => (upd_ne fun z => by subst z; exact e h).trans (l.frz a e n), l.wfp, l.wsub, l.live, l.own⟩
/-- a value in flight, told to all -/
theorem told {v : V} {r : Vl} (l : LS O Φ H W (Own ρ1 σ) Φ1 H1 W1) (s : Stt g Φ1 H1 W1 ρ1 S1 σ) (q : RV g σ H v r Φ1 H1 W1 ρ1) :
    ∃ Φ2, Same Φ1 Φ2 ∧ LS O Φ H W (Own ρ1 σ) Φ2 H1 W1 ∧ Stt g Φ2 H1 W1 ρ1 S1 σ ∧ Rp g W1.w Φ2 v r.d := by
  cases r with
  | fz d => exact ⟨Φ1, Same.refl _, l, s, q⟩
  | ow xs =>
    obtain ⟨p, vs, rfl, e2, e3, e4, e5, e6, e7⟩ := q
    refine ⟨upd Φ1 p (.lst vs), same_upd e4, l.told e7 e4, s.frz e4 e2 e5 e6, ?_⟩
    exact .lst upd_same (e3.mono (same_upd e4) (WSub.refl _))
theorem Pst.okv {R : Rl α β} {a : α} {Q : β → Hp → Prop} {b : β} (h : Pst g Wx σ (Own ρ σ) Φ H W R (.ok a ρ S) Q) (s : Stt g Φ H W ρ S σ) (q : R H b a Φ H W ρ) : Q b H := h b Φ H W LS.refl s q
/-- behind a value that is told to all -/
theorem Pst.bindF {R : Rl α β} {r : Rs Vl} {f : Vl → Rho → So → Rs α} {Q : β → Hp → Prop} {Q' : V → Hp → Prop} (hR : Early R) (h : Pst g Wx σ O Φ H W R (r.bind f) Q)
    (k : ∀ (c : Vl) (ρ1 : Rho) (S1 : So) (d : V) (Φ1 H1 : Hp) (W1 : Wd), LS O Φ H W (Own ρ1 σ) Φ1 H1 W1 → Stt g Φ1 H1 W1 ρ1 S1 σ → Rp g W1.w Φ1 d c.d → Pst g Wx σ (Own ρ1 σ) Φ1 H1 W1 R (f c ρ1 S1) Q → Q' d H1) : Pst g Wx σ O Φ H W (RV g σ) r Q' := by
  cases r with
  | ok c ρ1 S1 =>
    intro d Φ1 H1 W1 l s q
    obtain ⟨Φ2, e, l2, s2, q2⟩ := told l s q
    exact k c ρ1 S1 d Φ2 H1 W1 l2 s2 q2 (Pst.shift hR l2 h)
  | rs x ρ' S' => exact h
  | no => exact h
/-- behind an operand -/
theorem Pst.bindO {R : Rl α β} {m : E} {f : Opd → Rho → So → Rs α} {Q : β → Hp → Prop} {Q' : V → Hp → Prop} (hR : Early R) (h : Pst g Wx σ O Φ H W R ((opd m ρ S (ev C m ρ S)).bind f) Q)
    (k : ∀ (c : Opd) (ρ1 : Rho) (S1 : So) (d : V) (Φ1 H1 : Hp) (W1 : Wd), LS O Φ H W (Own ρ1 σ) Φ1 H1 W1 → Stt g Φ1 H1 W1 ρ1 S1 σ → RO g σ H d c Φ1 H1 W1 ρ1 → Pst g Wx σ (Own ρ1 σ) Φ1 H1 W1 R (f c ρ1 S1) Q → Q' d H1) : Pst g Wx σ O Φ H W (RO g σ) (opd m ρ S (ev C m ρ S)) Q' :=
  Pst.bind hR h fun c ρ1 S1 d Φ1 H1 W1 _ l s q p => k c ρ1 S1 d Φ1 H1 W1 l s q p
theorem RO.later {v : V} {c : Opd} (q : RO g σ H v c Φ1 H1 W1 ρ1) {H0 : Hp} {Φ2 H2 : Hp} {W2 : Wd} {ρ2 : Rho} (l : Same Φ1 Φ2) (lw : WSub W1.w W2.w) : RO g σ H0 v c Φ2 H2 W2 ρ2 := by
  cases c with
  | sl i => exact q
  | vl d => exact Rp.mono l lw q
theorem RO.now {v : V} {c : Opd} {d : D} (q : RO g σ H v c Φ1 H1 W1 ρ1) (s : Stt g Φ1 H1 W1 ρ1 S1 σ) (e : c.get ρ1 = some d) : Nw g W1.w Φ1 H1 v d := by
  cases c with
  | sl i =>
    have e' : slD? ρ1 i = some d := e
    unfold slD? at e'
    split at e'
    · rename_i u hu
      cases e'
      obtain ⟨x, e2, ok⟩ := s.slot i u hu
      have e3 : σ[i]? = some (some v) := q
      rw [e3] at e2
      cases e2
      cases u with
      | fz d =>
        obtain ⟨v', e4, r⟩ := ok
        cases e4
        exact .inl r
      | ow xs =>
        obtain ⟨p, vs, e4, h, r, _⟩ := ok
        cases e4
        exact .inr ⟨p, vs, xs, rfl, rfl, h, r⟩
    · cases e'
  | vl d' =>
    cases e
    exact .inl q
end
/-! ### names and constants -/
section
variable {g : Gl0} {Wx : WX} {C : Cal} {X : Cx} {e : Expr} {m : E}
structure SE (g : Gl0) (Wx : WX) (C : Cal) (X : Cx) (e : Expr) (m : E) : Prop where
  val : PE X e (tE g Wx C m)
  opd : PE X e (tO g Wx C m)
  tst : PT X e (tT g Wx C m)
theorem tO_of (h : PE X e (tE g Wx C m)) (n : ∀ i, m ≠ .var i) : PE X e (tO g Wx C m) := PE.weak h fun σ H Q ⟨Φ, W, ρ, S, s, p⟩ => by
  refine ⟨Φ, W, ρ, S, s, ?_⟩
  have e : VI.opd m ρ S (ev C m ρ S) = (ev C m ρ S).bind fun v ρ S => .ok (.vl v.d) ρ S := by
    cases m <;> first | rfl | exact absurd rfl (n _)
  have p' : Pst g Wx σ (Own ρ σ) Φ H W (RO g σ) (VI.opd m ρ S (ev C m ρ S)) Q := p
  rw [e] at p'
  exact Pst.bindF early_RO p' fun c ρ1 S1 d Φ1 H1 W1 l s1 q p1 => p1.okv s1 q
theorem tT_of (h : PE X e (tE g Wx C m)) (he : ∀ whole, isTrue e X.env whole = (do let v ← whole; standAt e.pos; holding [v] (truthy v))) : PT X e (tT g Wx C m) := PT.weak (pt_val h he) fun σ H Q ⟨Φ, W, ρ, S, s, p⟩ => by
  refine ⟨Φ, W, ρ, S, s, ?_⟩
  refine Pst.bindF early_RB p fun c ρ1 S1 d Φ1 H1 W1 l s1 q p1 => ?_
  cases c with
  | fz d' =>
    cases d' with
    | bl b =>
      cases q
      exact ⟨b, rfl, p1.okv s1 rfl⟩
    | _ => exact p1.elim
  | ow xs => exact p1.elim
theorem SE.of (h : PE X e (tE g Wx C m)) (n : ∀ i, m ≠ .var i) (he : ∀ whole, isTrue e X.env whole = (do let v ← whole; standAt e.pos; holding [v] (truthy v))) : SE g Wx C X e m := ⟨h, tO_of h n, tT_of h he⟩
theorem tE_var {i : Nat} (h : PE X e (tVar i)) : PE X e (tE g Wx C (.var i)) := PE.weak h fun σ H Q ⟨Φ, W, ρ, S, s, p⟩ => by
  rw [ev] at p
  split at p
  · rename_i d hd
    obtain ⟨x, e2, v, rfl, r⟩ := s.slot i _ hd
    exact ⟨v, e2, p.okv s r⟩
  · rename_i xs hd
    obtain ⟨x, e2, a, vs, rfl, h1, r, h3, h4⟩ := s.slot i _ hd
    refine ⟨.ref a, e2, ?_⟩
    have no : ¬ Own (ρ.set i (some (.fz (.lst xs)))) σ a := by
      rintro ⟨j, ys, f1, f2⟩
      by_cases hj : i = j
      · subst hj
        rw [List.getElem?_set_self (List.getElem?_eq_some_iff.mp hd).1] at f1
        cases f1
      · rw [List.getElem?_set_ne hj] at f1
        exact hj (s.apart i j xs ys a hd f1 e2 f2)
    have sub' : ∀ q, Own (ρ.set i (some (.fz (.lst xs)))) σ q → Own ρ σ q := by
      rintro q ⟨j, ys, f1, f2⟩
      by_cases hj : i = j
      · subst hj
        rw [List.getElem?_set_self (List.getElem?_eq_some_iff.mp hd).1] at f1
        cases f1
      · rw [List.getElem?_set_ne hj] at f1
        exact ⟨j, ys, f1, f2⟩
    have sa := same_upd (o := .lst vs) h3
    refine p (.ref a) (upd Φ a (.lst vs)) H W ⟨sa, fun _ _ e _ _ => e, fun b e n => upd_ne fun z => n (z ▸ ⟨i, xs, hd, e2⟩), fun _ z => .inl z, WSub.refl _, fun _ z => z, fun q z => .inl (sub' q z)⟩ ?_ ?_
    · refine ⟨fun b u q => ?_, s.src.frz h4 h3, by rw [List.length_set]; exact s.len, fun j v f1 => ?_, fun j k ys zs q f1 f2 f3 f4 => ?_⟩
      · by_cases hb : b = a
        · subst hb; rw [upd_same] at q; rw [h1]; exact q
        · rw [upd_ne hb] at q; exact s.sub b u q
      · by_cases hj : i = j
        · subst hj
          rw [List.getElem?_set_self (List.getElem?_eq_some_iff.mp hd).1] at f1
          cases f1
          exact ⟨_, e2, .ref a, rfl, .lst upd_same (r.mono sa (WSub.refl _))⟩
        · rw [List.getElem?_set_ne hj] at f1
          obtain ⟨y, f2, q⟩ := s.slot j v f1
          refine ⟨y, f2, q.frz h3 ?_⟩
          rintro ys ws rfl rfl _
          exact hj (s.apart i j xs ys a hd f1 e2 f2)
      · by_cases hj : i = j
        · subst hj
          rw [List.getElem?_set_self (List.getElem?_eq_some_iff.mp hd).1] at f1
          cases f1
        · by_cases hk : i = k
          · subst hk
            rw [List.getElem?_set_self (List.getElem?_eq_some_iff.mp hd).1] at f2
            cases f2
          · rw [List.getElem?_set_ne hj] at f1
            rw [List.getElem?_set_ne hk] at f2
            exact s.apart j k ys zs q f1 f2 f3 f4
    · exact Rp.lst upd_same (r.mono sa (WSub.refl _))
  · exact p.elim
theorem tO_var {i : Nat} (h : PE X e (tVar i)) : PE X e (tO g Wx C (.var i)) := PE.weak h fun σ H Q ⟨Φ, W, ρ, S, s, p⟩ => by
  have p' : Pst g Wx σ (Own ρ σ) Φ H W (RO g σ) ((lift (slD? ρ i) ρ S).bind fun _ ρ S => .ok (.sl i) ρ S) Q := p
  cases q : slD? ρ i with
  | none => rw [q] at p'; exact p'.elim
  | some d =>
    rw [q] at p'
    unfold slD? at q
    split at q
    · rename_i u hu
      obtain ⟨x, e2, ok⟩ := s.slot i u hu
      have : ∃ v, x = some v := by
        cases u with
        | fz d => obtain ⟨v, e4, _⟩ := ok; exact ⟨v, e4⟩
        | ow xs => obtain ⟨p, vs, e4, _⟩ := ok; exact ⟨_, e4⟩
      obtain ⟨v, rfl⟩ := this
      exact ⟨v, e2, Pst.okv (a := Opd.sl i) p' s e2⟩
    · cases q
theorem SE.var {i : Nat} (h : PE X e (tVar i)) (he : ∀ whole, isTrue e X.env whole = (do let v ← whole; standAt e.pos; holding [v] (truthy v))) : SE g Wx C X e (.var i) := ⟨tE_var h, tO_var h, tT_of (tE_var h) he⟩
theorem tE_con {v : V} {d : D} (h : PE X e (tC v)) (hev : ∀ ρ S, ev C m ρ S = .ok (.fz d) ρ S) (r : ∀ w Φ, Rp g w Φ v d) : PE X e (tE g Wx C m) := PE.weak h fun σ H Q ⟨Φ, W, ρ, S, s, p⟩ => by
  rw [hev] at p
  exact p.okv s (r _ _)
/-! ### lists of expressions -/
theorem tA_nil : PA X [] (tA g Wx C []) := PA.weak pa_nil fun σ H Q ⟨Φ, W, ρ, S, s, p⟩ => by
  rw [evs] at p
  exact p.okv s .nil
theorem tA_cons {es : List Expr} {ms : List E} (h : PE X e (tE g Wx C m)) (hs : PA X es (tA g Wx C ms)) (hst : starEach (e :: es) X.env = (false, eval e X.env) :: starEach es X.env) : PA X (e :: es) (tA g Wx C (m :: ms)) :=
  PA.weak (pa_cons h hs hst) fun σ H Q ⟨Φ, W, ρ, S, s, p⟩ => by
    rw [evs] at p
    refine ⟨Φ, W, ρ, S, s, ?_⟩
    refine Pst.bindF early_RL p fun c ρ1 S1 d Φ1 H1 W1 l s1 q p1 => ⟨Φ1, W1, ρ1, S1, s1, ?_⟩
    refine Pst.bind early_RL p1 fun ds ρ2 S2 vs Φ2 H2 W2 _ l2 s2 q2 p2 => ?_
    exact p2.okv s2 (.cons (q.mono l2.mono l2.wsub) q2)
/-- displays with starred items -/
def tAS (g : Gl0) (Wx : WX) (C : Cal) (ms : List E) (fs : List Bool) : TA := tR g Wx (fun _ => RL g) (evS C ms fs)
theorem tAS_nil {fs : List Bool} : PA X [] (tAS g Wx C [] fs) := PA.weak pa_nil fun σ H Q ⟨Φ, W, ρ, S, s, p⟩ => by
  rw [evS] at p
  exact p.okv s .nil
theorem tAS_cons {es : List Expr} {ms : List E} {fs : List Bool} (h : PE X e (tE g Wx C m)) (hs : PA X es (tAS g Wx C ms fs)) (hst : starEach (e :: es) X.env = (false, eval e X.env) :: starEach es X.env) : PA X (e :: es) (tAS g Wx C (m :: ms) (false :: fs)) :=
  PA.weak (pa_cons h hs hst) fun σ H Q ⟨Φ, W, ρ, S, s, p⟩ => by
    rw [evS] at p
    refine ⟨Φ, W, ρ, S, s, ?_⟩
    refine Pst.bindF early_RL p fun c ρ1 S1 d Φ1 H1 W1 l s1 q p1 => ⟨Φ1, W1, ρ1, S1, s1, ?_⟩
    have p1 : Pst g Wx σ (Own ρ1 σ) Φ1 H1 W1 (RL g) ((evS C ms fs ρ1 S1).bind fun ds ρ S => .ok ([c.d] ++ ds) ρ S) Q := p1
    refine Pst.bind early_RL p1 fun ds ρ2 S2 vs Φ2 H2 W2 _ l2 s2 q2 p2 => ?_
    exact p2.okv s2 (.cons (q.mono l2.mono l2.wsub) q2)
theorem tAS_star {es : List Expr} {ms : List E} {fs : List Bool} {sp : Pos} (hK : X.K = g.K) (h : PE X e (tE g Wx C m)) (hs : PA X es (tAS g Wx C ms fs)) : PA X (.Starred e sp :: es) (tAS g Wx C (m :: ms) (true :: fs)) :=
  PA.weak (StX.pa_star h hs) fun σ H Q ⟨Φ, W, ρ, S, s, p⟩ => by
    rw [evS] at p
    refine ⟨Φ, W, ρ, S, s, ?_⟩
    refine Pst.bindF early_RL p fun c ρ1 S1 d Φ1 H1 W1 l s1 q p1 => ?_
    have go : ∀ (xs : List D), c.d.items = some xs → ∃ a vs, d = V.ref a ∧ (SqT g.K H1 a vs ∨ SqL g.K H1 a vs) ∧ Rps g W1.w Φ1 vs xs := fun xs hx => by
      generalize hd : c.d = z at q hx
      cases z with
      | lst ys =>
        cases hx
        cases q with
        | lst h r => exact ⟨_, _, rfl, .inr (SqL.of (s1.sub _ _ h)), r⟩
      | tup ys =>
        cases hx
        cases q with
        | tup h r => exact ⟨_, _, rfl, .inl (same_seqT s1.sub h.sq), r⟩
      | _ => cases hx
    cases hx : c.d.items with
    | none =>
      have p1 : Pst g Wx σ (Own ρ1 σ) Φ1 H1 W1 (RL g) ((lift c.d.items ρ1 S1).bind fun xs ρ S => (evS C ms fs ρ S).bind fun ds ρ S => .ok (xs ++ ds) ρ S) Q := p1
      rw [hx] at p1
      exact p1.elim
    | some xs =>
      have p1 : Pst g Wx σ (Own ρ1 σ) Φ1 H1 W1 (RL g) ((lift c.d.items ρ1 S1).bind fun xs ρ S => (evS C ms fs ρ S).bind fun ds ρ S => .ok (xs ++ ds) ρ S) Q := p1
      rw [hx] at p1
      have p1 : Pst g Wx σ (Own ρ1 σ) Φ1 H1 W1 (RL g) ((evS C ms fs ρ1 S1).bind fun ds ρ S => .ok (xs ++ ds) ρ S) Q := p1
      obtain ⟨a, vs, e1, e2, e3⟩ := go xs hx
      refine ⟨a, vs, e1, by rw [hK]; exact e2, Φ1, W1, ρ1, S1, s1, ?_⟩
      refine Pst.bind early_RL p1 fun ds ρ2 S2 ws Φ2 H2 W2 _ l2 s2 q2 p2 => ?_
      exact p2.okv s2 ((e3.mono l2.mono l2.wsub).append q2)
/-- a new tuple is laid, with its record -/
theorem ftup_laid {X : Cx} {pins : List (Addr × Obj)} {σ : L2.St} {H : Hp} {s : Shared} {xs : List V} {us : List Value} (I : L2.Inv X pins σ H s) (r : Vals xs us) (hz : xs.length ≤ sizeLine) (tk : Nat) :
    FT xs (.frz { cls := .type "tuple", data := .seq us.toArray } (.tup xs)) ∧ L2.Inv X pins σ (upd H s.heap.objs.size (.frz { cls := .type "tuple", data := .seq us.toArray } (.tup xs))) { s with heap := s.heap.push { cls := .type "tuple", data := .seq us.toArray }, toks := tk } :=
  ⟨⟨_, rfl, rfl⟩, I.laid (t' := tk) (fun b u e => Heap.get?_push_of_some _ e) (Nat.le_refl _) ⟨Heap.get?_push_size _ rfl, hz, us, r, IsTup.new _ _⟩⟩
/-- the reading: a new tuple of xs -/
def NewT (xs : List V) (H : Hp) (Q : VK) : Prop := ∀ p o, FT xs o → H p = none → Q (.ref p) (upd H p o)
theorem newT_laid {X : Cx} {pins : List (Addr × Obj)} {σ : L2.St} {H : Hp} {s : Shared} {xs : List V} {us : List Value} {Q : VK} (I : L2.Inv X pins σ H s) (r : Vals xs us) (hz : xs.length ≤ sizeLine) (q : NewT xs H Q) (tk : Nat) :
    EP X pins σ Q (.ref s.heap.objs.size) { s with heap := s.heap.push { cls := .type "tuple", data := .seq us.toArray }, toks := tk } := by
  obtain ⟨f, I2⟩ := ftup_laid I r hz tk
  exact ⟨.ref s.heap.objs.size, _, I2, rfl, q _ _ f (I.hok.fresh (Nat.le_refl _))⟩
def tTupF (t : TA) : TE := fun σ H Q => t σ H fun xs H1 => xs.length ≤ sizeLine ∧ NewT xs H1 Q
theorem pe_tupF {X : Cx} {es : List Expr} {k : Nat} {pos : Pos} {t : TA} (h : PA X es t) : PE X (.Tuple es k pos) (tTupF t) := ⟨fun pins s σ H Q I q =>
  wpAny_Tuple_spliced (thn (h.run pos pins s σ H _ I q) fun us s1 ⟨xs, H1, I1, r, z, q1⟩ => ⟨by rw [← r.length]; exact z, newT_laid I1 r z q1 s1.toks⟩)⟩
/-- a tuple, a list that is written -/
theorem tE_tup {es : List Expr} {ms : List E} {k : Nat} {pos : Pos} (h : PA X es (tA g Wx C ms)) : PE X (.Tuple es k pos) (tE g Wx C (.tup ms)) := PE.weak (pe_tupF h) fun σ H Q ⟨Φ, W, ρ, S, s, p⟩ => by
  rw [ev] at p
  refine ⟨Φ, W, ρ, S, s, Pst.bind early_RV p fun ds ρ1 S1 vs Φ1 H1 W1 _ l s1 q p1 => ?_⟩
  split at p1
  · rename_i hz
    refine ⟨by rw [Rps.length q, sizeLine_eq]; exact hz, fun a o f ha => ?_⟩
    exact p1 (.ref a) _ _ _ (LS.newF s1 ha) (s1.newF ha) (.tup (.of f upd_same) (q.mono (same_upd (s1.phi ha)) (WSub.refl _)))
  · exact p1.elim
/-- a new list that is held by nobody yet -/
theorem new_ow {σ : L2.St} {Φ H : Hp} {W : Wd} {ρ : Rho} {S : So} {vs : List V} {xs : List D} {Q : V → Hp → Prop} {a : Addr} (s : Stt g Φ H W ρ S σ) (p : Pst g Wx σ (Own ρ σ) Φ H W (RV g σ) (.ok (.ow xs) ρ S) Q) (r : Rps g W.w Φ vs xs) (ha : H a = none) :
    Q (.ref a) (upd H a (.lst vs)) :=
  p (.ref a) Φ _ W (LS.new s ha) (s.new ha) ⟨a, vs, rfl, upd_same, r, s.phi ha, s.nfp ha, s.nown ha, ha⟩
/-- a new tuple -/
theorem new_tup {σ : L2.St} {Φ H : Hp} {W : Wd} {ρ : Rho} {S : So} {vs : List V} {xs : List D} {Q : V → Hp → Prop} (s : Stt g Φ H W ρ S σ) (p : Pst g Wx σ (Own ρ σ) Φ H W (RV g σ) (.ok (.fz (.tup xs)) ρ S) Q) (r : Rps g W.w Φ vs xs) : NewT vs H Q :=
  fun a _ f ha => p (.ref a) _ _ _ (LS.newF s ha) (s.newF ha) (.tup (.of f upd_same) (r.mono (same_upd (s.phi ha)) (WSub.refl _)))
theorem tE_lst {es : List Expr} {ms : List E} {pos : Pos} (h : PA X es (tA g Wx C ms)) : PE X (.List es pos) (tE g Wx C (.lst ms)) := PE.weak (pe_lst h) fun σ H Q ⟨Φ, W, ρ, S, s, p⟩ => by
  rw [ev] at p
  refine ⟨Φ, W, ρ, S, s, Pst.bind early_RV p fun ds ρ1 S1 vs Φ1 H1 W1 _ l s1 q p1 => ?_⟩
  split at p1
  · rename_i hz
    exact ⟨by rw [Rps.length q, sizeLine_eq]; exact hz, fun a ha => new_ow s1 p1 q ha⟩
  · exact p1.elim
theorem tE_stdT {es : List Expr} {ms : List E} {fs : List Bool} {k : Nat} {pos : Pos} (h : PA X es (tAS g Wx C ms fs)) : PE X (.Tuple es k pos) (tE g Wx C (.std true fs ms)) := PE.weak (pe_tupF h) fun σ H Q ⟨Φ, W, ρ, S, s, p⟩ => by
  rw [ev] at p
  refine ⟨Φ, W, ρ, S, s, Pst.bind early_RV p fun ds ρ1 S1 vs Φ1 H1 W1 _ l s1 q p1 => ?_⟩
  split at p1
  · rename_i hz
    refine ⟨by rw [Rps.length q, sizeLine_eq]; exact hz, fun a o f ha => ?_⟩
    exact p1 (.ref a) _ _ _ (LS.newF s1 ha) (s1.newF ha) (.tup (.of f upd_same) (q.mono (same_upd (s1.phi ha)) (WSub.refl _)))
  · exact p1.elim
theorem tE_stdL {es : List Expr} {ms : List E} {fs : List Bool} {pos : Pos} (h : PA X es (tAS g Wx C ms fs)) : PE X (.List es pos) (tE g Wx C (.std false fs ms)) := PE.weak (pe_lst h) fun σ H Q ⟨Φ, W, ρ, S, s, p⟩ => by
  rw [ev] at p
  refine ⟨Φ, W, ρ, S, s, Pst.bind early_RV p fun ds ρ1 S1 vs Φ1 H1 W1 _ l s1 q p1 => ?_⟩
  split at p1
  · rename_i hz
    exact ⟨by rw [Rps.length q, sizeLine_eq]; exact hz, fun a ha => new_ow s1 p1 q ha⟩
  · exact p1.elim
/-! ### operators -/
/-- an operator on values, as the tree has it -/
def OpOk (g : Gl0) (Wx : WX) (f : D → D → Option Vl) (r : R2) : Prop := ∀ (σ : L2.St) (Φ H : Hp) (W : Wd) (ρ : Rho) (S : So) (x y : V) (a b : D) (v : Vl) (Q : VK), Stt g Φ H W ρ S σ → Nw g W.w Φ H x a → Nw g W.w Φ H y b → f a b = some v →
  Pst g Wx σ (Own ρ σ) Φ H W (RV g σ) (.ok v ρ S) Q → r x y H Q
theorem tE_op2 {ma mb : E} {f : D → D → Option Vl} {r : R2} (hE : PE X e (tOp r (tO g Wx C ma) (tO g Wx C mb))) (ok : OpOk g Wx f r)
    (hm : ∀ ρ S, ev C m ρ S = (opd ma ρ S (ev C ma ρ S)).bind fun x ρ S => (opd mb ρ S (ev C mb ρ S)).bind fun y ρ S => lift ((x.get ρ).bind fun x => (y.get ρ).bind fun y => f x y) ρ S) : PE X e (tE g Wx C m) := PE.weak hE fun σ H Q ⟨Φ, W, ρ, S, s, p⟩ => by
  rw [hm] at p
  refine ⟨Φ, W, ρ, S, s, Pst.bindO early_RV p fun x ρ1 S1 u Φ1 H1 W1 l s1 q p1 => ⟨Φ1, W1, ρ1, S1, s1, Pst.bindO early_RV p1 fun y ρ2 S2 v Φ2 H2 W2 l2 s2 q2 p2 => ?_⟩⟩
  have q1 : RO g σ H2 u x Φ2 H2 W2 ρ2 := RO.later q l2.mono l2.wsub
  cases ex : x.get ρ2 with
  | none => rw [ex] at p2; exact p2.elim
  | some a' =>
    cases ey : y.get ρ2 with
    | none => rw [ex, ey] at p2; exact p2.elim
    | some b' =>
      rw [ex, ey] at p2
      cases ef : f a' b' with
      | none =>
        simp only [Option.bind_some, ef] at p2
        exact p2.elim
      | some z =>
        simp only [Option.bind_some, ef] at p2
        exact ok σ Φ2 H2 W2 ρ2 S2 u v a' b' z Q s2 (q1.now s2 ex) (q2.now s2 ey) ef p2
/-- a comparison -/
def CmOk (g : Gl0) (f : D → D → Option Bool) (r : R2) : Prop := ∀ (Φ H : Hp) (w : Wr) (x y : V) (a b : D) (c : Bool) (Q : VK), Same Φ H → Nw g w Φ H x a → Nw g w Φ H y b → f a b = some c → Q (.bl c) H → r x y H Q
theorem tE_cmp {ma mb : E} {op : Cop} {r : R2} (hE : PE X e (tOp r (tO g Wx C ma) (tO g Wx C mb))) (ok : CmOk g (cmpD op) r) : PE X e (tE g Wx C (.cmp op ma mb)) := PE.weak hE fun σ H Q ⟨Φ, W, ρ, S, s, p⟩ => by
  rw [ev] at p
  refine ⟨Φ, W, ρ, S, s, Pst.bindO early_RV p fun x ρ1 S1 u Φ1 H1 W1 l s1 q p1 => ⟨Φ1, W1, ρ1, S1, s1, Pst.bindO early_RV p1 fun y ρ2 S2 v Φ2 H2 W2 l2 s2 q2 p2 => ?_⟩⟩
  have q1 : RO g σ H2 u x Φ2 H2 W2 ρ2 := RO.later q l2.mono l2.wsub
  cases ex : x.get ρ2 with
  | none => rw [ex] at p2; exact p2.elim
  | some a' =>
    cases ey : y.get ρ2 with
    | none => rw [ex, ey] at p2; exact p2.elim
    | some b' =>
      cases ef : cmpD op a' b' with
      | none => simp only [ex, ey, Option.bind_some, ef] at p2; exact p2.elim
      | some z =>
        simp only [ex, ey, Option.bind_some, ef] at p2
        exact ok Φ2 H2 W2.w u v a' b' z Q s2.sub (q1.now s2 ex) (q2.now s2 ey) ef (Pst.okv (a := vbool z) p2 s2 (.bl z))
theorem tT_cmp {ma mb : E} {op : Cop} {r : R2} (hE : PT X e (tTest (tOp r (tO g Wx C ma) (tO g Wx C mb)))) (ok : CmOk g (cmpD op) r) : PT X e (tT g Wx C (.cmp op ma mb)) := PT.weak hE fun σ H Q ⟨Φ, W, ρ, S, s, p⟩ => by
  have p : Pst g Wx σ (Own ρ σ) Φ H W RB (tru (ev C (.cmp op ma mb) ρ S)) Q := p
  rw [ev] at p
  unfold tru at p
  refine ⟨Φ, W, ρ, S, s, ?_⟩
  have e1 : ∀ {α β γ : Type} (r : Rs α) (f : α → Rho → So → Rs β) (k : β → Rho → So → Rs γ), (r.bind f).bind k = r.bind fun a ρ S => (f a ρ S).bind k := fun r f k => by cases r <;> rfl
  rw [e1] at p
  refine Pst.bindO early_RB p fun x ρ1 S1 u Φ1 H1 W1 l s1 q p1 => ⟨Φ1, W1, ρ1, S1, s1, ?_⟩
  rw [e1] at p1
  refine Pst.bindO early_RB p1 fun y ρ2 S2 v Φ2 H2 W2 l2 s2 q2 p2 => ?_
  have q1 : RO g σ H2 u x Φ2 H2 W2 ρ2 := RO.later q l2.mono l2.wsub
  cases ex : x.get ρ2 with
  | none => rw [ex] at p2; exact p2.elim
  | some a' =>
    cases ey : y.get ρ2 with
    | none => rw [ex, ey] at p2; exact p2.elim
    | some b' =>
      cases ef : cmpD op a' b' with
      | none => simp only [ex, ey, Option.bind_some, ef] at p2; exact p2.elim
      | some z =>
        simp only [ex, ey, Option.bind_some, ef] at p2
        exact ok Φ2 H2 W2.w u v a' b' z _ s2.sub (q1.now s2 ex) (q2.now s2 ey) ef ⟨z, rfl, Pst.okv (a := z) p2 s2 rfl⟩
end
theorem Rs.bind_bind {α β γ : Type} (r : Rs α) (f : α → Rho → So → Rs β) (k : β → Rho → So → Rs γ) : (r.bind f).bind k = r.bind fun a ρ S => (f a ρ S).bind k := by cases r <;> rfl
end VI
set_option Elab.async false
set_option linter.all false
set_option maxRecDepth 100000
set_option maxHeartbeats 4000000
/-! VIv: a tuple so many times. -/
namespace VI
open PySem PySem.Spec PyProof.Rows L2
open AutoSeq1 (wpAny_loadPart')
theorem mul_same (l : Addr) (its : Array Value) (n : Nat) (dd : Option Addr) (sl : Array (Option Value)) (x : Int) (u : Tok) (h0 : (decide (x < -(2 ^ 63)) || decide (x ≥ 2 ^ 63)) = false) (h1 : (its.isEmpty || x == 1) = true) :
    Meets (Builtin.«tuple.__mul__» ⟨[.ref l, .int x u], []⟩) (fun _ R s => s.heap.get? l = some { cls := .type "tuple", dict := dd, data := .seq its n, slots := sl } ∧ R (.ok (.ret (.ref l))) s) :=
  .of_wp fun prog w A R s h => by
    obtain ⟨hp, g, d, tk, os⟩ := s
    obtain ⟨hl, h⟩ := h
    have f1 := AutoSeq1.idx_int
    wp_walk using wpAny_loadPart' hl
    repeat (first
      | (refine wpAny_ite_false (decide_eq_false (by rw [h0]; exact Bool.false_ne_true)) ?_; wp_walk using wpAny_loadPart' hl)
      | (refine wpAny_ite_true (decide_eq_true h1) ?_; wp_walk using wpAny_loadPart' hl))
    exact ⟨_, rfl, h⟩
theorem mul_none (l : Addr) (its : Array Value) (n : Nat) (dd : Option Addr) (sl : Array (Option Value)) (x : Int) (u : Tok) (h0 : (decide (x < -(2 ^ 63)) || decide (x ≥ 2 ^ 63)) = false) (h1 : (its.isEmpty || x == 1) = false) (h2 : (decide (x ≤ 0) || its.isEmpty) = true) :
    Meets (Builtin.«tuple.__mul__» ⟨[.ref l, .int x u], []⟩) (fun _ R s => s.heap.get? l = some { cls := .type "tuple", dict := dd, data := .seq its n, slots := sl } ∧ R (.ok (.ret (Value.ref s.heap.objs.size))) { s with heap := s.heap.push { cls := Value.type "tuple", data := Data.seq #[] } }) :=
  .of_wp fun prog w A R s h => by
    obtain ⟨hp, g, d, tk, os⟩ := s
    obtain ⟨hl, h⟩ := h
    have f1 := AutoSeq1.idx_int
    wp_walk using wpAny_loadPart' hl
    repeat (first
      | (refine wpAny_ite_false (decide_eq_false (by rw [h0]; exact Bool.false_ne_true)) ?_; wp_walk using wpAny_loadPart' hl)
      | (refine wpAny_ite_false (decide_eq_false (by rw [h1]; exact Bool.false_ne_true)) ?_; wp_walk using wpAny_loadPart' hl)
      | (refine wpAny_ite_true (decide_eq_true h2) ?_; wp_walk using wpAny_loadPart' hl))
    exact ⟨_, rfl, h⟩
/-- t * k -/
def rRepF (K : PySem.W.Frag) : R2 := fun x y H Q => ∃ l k xs, x = .ref l ∧ y = .int k ∧ SqT K H l xs ∧ 0 ≤ k ∧ k ≤ 1000 ∧ xs.length ≤ 1000 ∧ (xs = [] ∨ k = 1 → Q (.ref l) H) ∧ (xs ≠ [] → k ≠ 1 → NewT (List.replicate k.toNat xs).flatten H Q)
theorem op_repF {X : Cx} : OpR X (binaryOp .Mult) (rRepF X.K) := by
  intro pins s σ H x y v u Q I rx ry h
  obtain ⟨l, k, xs, rfl, rfl, hT, k0, k1, hz, q1, q2⟩ := h
  obtain rfl : v = Value.ref l := rx
  obtain ⟨t, rfl⟩ := ry
  obtain ⟨its, r, ⟨⟨cls, dd, data, sl⟩, ho, hc, n, hd⟩, hs⟩ := I.tuple hT
  simp only at hc hd
  subst hc hd
  have hle : its.length = xs.length := r.length.symm
  have h0 : (decide (k < -(2 ^ 63)) || decide (k ≥ 2 ^ 63)) = false := by
    rw [decide_eq_false (by omega), decide_eq_false (by omega)]
    rfl
  have go : ∀ {P : Result → Shared → Prop → Prop} (M : Meets (Builtin.«tuple.__mul__» ⟨[.ref l, .int k t], []⟩) (fun _ R s' => s'.heap.get? l = some { cls := .type "tuple", dict := dd, data := .seq its.toArray n, slots := sl } ∧ R (.ok (.ret (.ref l))) s')), EP X pins σ Q (.ref l) s →
      wpAny (model X.prog X.w) X.A (binaryOp .Mult (.ref l) (.int k t)) (EP X pins σ Q) X.xe s := fun M z =>
    wpAny_binaryOp_repeat_ref (T := "tuple") (U := "int") (by decide) ⟨_, ho, rfl⟩ (fun s' => typeIs_int s' k t) noFill_tuple_mul F.fills_int_mul F.slot_int_rmul repeat_tuple F.slot_int_index.lookup
      (call_meets F.slot_int_rmul (typeIs_int s k t) F.entry_int_rmul (F.args_int_rmul_2 _ _) (int_rmul_tuple k t l its.toArray n dd sl) ⟨ho, rfl, ⟨_, ho, rfl⟩, call_meets F.slot_tuple_mul ⟨_, ho, rfl⟩ F.entry_tuple_mul (F.args_tuple_mul_2 _ _) M ⟨ho, z⟩⟩)
  by_cases hx : xs = [] ∨ k = 1
  · refine go (P := fun _ _ p => p) (mul_same l its.toArray n dd sl k t h0 ?_) ⟨.ref l, H, I, rfl, q1 hx⟩
    rcases hx with rfl | rfl
    · cases r; rfl
    · simp
  · have hn : xs ≠ [] := fun z => hx (.inl z)
    have h1 : k ≠ 1 := fun z => hx (.inr z)
    have hi : its.toArray.isEmpty = false := by
      cases its with
      | nil => exact absurd (List.eq_nil_of_length_eq_zero hle.symm) hn
      | cons a b => rfl
    have c1 : (its.toArray.isEmpty || k == 1) = false := by
      rw [hi, Bool.false_or]
      exact beq_eq_false_iff_ne.mpr h1
    by_cases hk : k = 0
    · subst hk
      refine wpAny_binaryOp_repeat_ref (T := "tuple") (U := "int") (by decide) ⟨_, ho, rfl⟩ (fun s' => typeIs_int s' 0 t) noFill_tuple_mul F.fills_int_mul F.slot_int_rmul repeat_tuple F.slot_int_index.lookup
        (call_meets F.slot_int_rmul (typeIs_int s 0 t) F.entry_int_rmul (F.args_int_rmul_2 _ _) (int_rmul_tuple 0 t l its.toArray n dd sl) ⟨ho, rfl, ⟨_, ho, rfl⟩, call_meets F.slot_tuple_mul ⟨_, ho, rfl⟩ F.entry_tuple_mul (F.args_tuple_mul_2 _ _) (mul_none l its.toArray n dd sl 0 t h0 c1 rfl) ⟨ho, ?_⟩⟩)
      exact newT_laid I (us := []) .nil (Nat.zero_le _) (q2 hn (by decide)) s.toks
    · have c2 : (decide (k ≤ 0) || its.toArray.isEmpty) = false := by
        rw [hi, Bool.or_false]
        exact decide_eq_false (by omega)
      have hm : ((its.toArray.size : Nat) : Int) * k ≤ 1000000 := by
        rw [List.size_toArray, hle]
        have a1 : ((xs.length : Nat) : Int) * k ≤ 1000 * k := Int.mul_le_mul_of_nonneg_right (by omega) k0
        omega
      have fl : ∀ {α : Type} (zs : List α), zs.length = xs.length → (List.replicate k.toNat zs).flatten.length ≤ sizeLine := fun zs e => by
        rw [PyProof.Rows.lm_len_rep_flat, e, sizeLine_eq]
        have a1 : k.toNat * xs.length ≤ 1000 * 1000 := Nat.mul_le_mul (by omega) hz
        omega
      have c4 : Builtin.Tuple.tupleTooMany (((its.toArray.size : Nat) : Int) * k) = false := by
        unfold Builtin.Tuple.tupleTooMany
        rw [sizeLine_eq]
        exact decide_eq_false (by omega)
      refine wpAny_binaryOp_repeat_ref (T := "tuple") (U := "int") (by decide) ⟨_, ho, rfl⟩ (fun s' => typeIs_int s' k t) noFill_tuple_mul F.fills_int_mul F.slot_int_rmul repeat_tuple F.slot_int_index.lookup
        (call_meets F.slot_int_rmul (typeIs_int s k t) F.entry_int_rmul (F.args_int_rmul_2 _ _) (int_rmul_tuple k t l its.toArray n dd sl) ⟨ho, rfl, ⟨_, ho, rfl⟩, call_meets F.slot_tuple_mul ⟨_, ho, rfl⟩ F.entry_tuple_mul (F.args_tuple_mul_2 _ _) (tuple_mulW l its.toArray n dd sl k t h0 c1 c2 (by omega) c4 (by rw [size_rep, List.size_toArray]; exact fl its hle)) ⟨ho, ?_⟩⟩)
      rw [size_rep]
      exact newT_laid I (r.rep k.toNat) (fl xs rfl) (q2 hn h1) s.toks
end VI
set_option Elab.async false
set_option linter.all false
set_option maxRecDepth 100000
set_option maxHeartbeats 4000000
/-! VIz: repr of data with dicts. -/
namespace VI
open PySem PySem.Spec PyProof.Rows L2
mutual
/-- what stands in the heap below a value; a dict is not the interpreter's own -/
inductive Sh (h : Heap) : Value → PyData → Prop
  | non : Sh h .none .none
  | bl (b : Bool) : Sh h (.bool b) (.bool b)
  | int (i : Int) (t : Tok) : Sh h (.int i t) (.int i)
  | str (x : Str) (t : Tok) : Sh h (.str x t) (.str x)
  | lst {a : Addr} {o : Obj} {its : List Value} {n : Nat} {ds : List PyData} : h.get? a = some o → o.cls = .type "list" → o.data = .seq its.toArray n → Shs h its ds → Sh h (.ref a) (.list ds)
  | tup {a : Addr} {o : Obj} {its : List Value} {n : Nat} {ds : List PyData} : h.get? a = some o → o.cls = .type "tuple" → o.data = .seq its.toArray n → Shs h its ds → Sh h (.ref a) (.tuple ds)
  | dic {a : Addr} {o : Obj} {es : List DictEntry} {n : Nat} {ps : List (PyData × PyData)} : (a == sysModules) = false → h.get? a = some o → o.cls = .type "dict" → o.data = .dict es.toArray n →
      Shs h (es.map (·.key)) (ps.map (·.1)) → Shs h (es.map (·.val)) (ps.map (·.2)) → Sh h (.ref a) (.dict ps)
inductive Shs (h : Heap) : List Value → List PyData → Prop
  | nil : Shs h [] []
  | cons {v : Value} {vs : List Value} {d : PyData} {ds : List PyData} : Sh h v d → Shs h vs ds → Shs h (v :: vs) (d :: ds)
end
section
variable {h : Heap}
mutual
theorem Sh.reads : ∀ {v : Value} {d : PyData}, Sh h v d → ∃ as, Reads h v d as
  | _, _, .non => ⟨_, .none⟩
  | _, _, .bl b => ⟨_, .bool b⟩
  | _, _, .int i t => ⟨_, .int i t⟩
  | _, _, .str x t => ⟨_, .str x t⟩
  | _, _, .lst e1 e2 e3 r => by
    obtain ⟨as, q⟩ := Shs.reads r
    exact ⟨_, .list e1 e2 e3 q⟩
  | _, _, .tup e1 e2 e3 r => by
    obtain ⟨as, q⟩ := Shs.reads r
    exact ⟨_, .tuple e1 e2 e3 q⟩
  | _, _, .dic e0 e1 e2 e3 r1 r2 => by
    obtain ⟨as, q1⟩ := Shs.reads r1
    obtain ⟨bs, q2⟩ := Shs.reads r2
    exact ⟨_, .dict e1 e2 e3 q1 q2⟩
theorem Shs.reads : ∀ {vs : List Value} {ds : List PyData}, Shs h vs ds → ∃ as, ReadsAll h vs ds as
  | _, _, .nil => ⟨_, .nil⟩
  | _, _, .cons h1 h2 => by
    obtain ⟨as, q1⟩ := Sh.reads h1
    obtain ⟨bs, q2⟩ := Shs.reads h2
    exact ⟨_, .cons q1 q2⟩
end
theorem Sh.above {a : Addr} {d : PyData} {n : Nat} {bs : List Addr} (r : Sh h (.ref a) d) (hn : n < d.depth) (hb : ReadAtMost h n bs) : a ∉ bs ∧ ReadAtMost h d.depth (a :: bs) := by
  obtain ⟨as, q⟩ := r.reads
  exact ⟨not_mem_of_deeper q hn hb, ReadAtMost.cons q (Nat.le_of_lt hn) hb⟩
end
section
variable {P : Program} {w : World} {h : Heap}
mutual
theorem Sh.told : ∀ {v : Value} {d : PyData}, Sh h v d → d.showable = true → d.shown.length ≤ sizeLine → ∃ bs, ReadAtMost h d.depth bs ∧ ReprK P w bs h d.depth v d.shown
  | _, _, .non, _, _ => ⟨[], (fun _ z => nomatch z), by rw [PyData.shown]; exact .of_is ReprIs.none _ _ _⟩
  | _, _, .bl b, _, _ => ⟨[], (fun _ z => nomatch z), by rw [PyData.shown]; exact .of_is (ReprIs.bool b) _ _ _⟩
  | _, _, .int i t, s, _ => ⟨[], (fun _ z => nomatch z), by rw [PyData.shown]; exact .of_is (ReprIs.int t (by rw [PyData.showable] at s; exact of_decide_eq_true s)) _ _ _⟩
  | _, _, .str x t, _, z => ⟨[], (fun _ z => nomatch z), by rw [PyData.shown] at z ⊢; exact .of_is (ReprIs.str x t z) _ _ _⟩
  | _, _, .lst (its := its) (ds := ds) e1 e2 e3 r, s, z => by
    rw [PyData.shown] at z
    rw [PyData.showable] at s
    obtain ⟨bs, hb, k⟩ := Shs.told r s fun t ht => Nat.le_trans (listText_mem_le ht) z
    obtain ⟨na, hc⟩ := Sh.above (.lst e1 e2 e3 r) (n := PyData.depthAll ds) (by rw [PyData.depth]; exact Nat.lt_succ_self _) hb
    refine ⟨_, hc, ?_⟩
    rw [PyData.depth, PyData.shown]
    cases r with
    | nil => rw [PyData.shownAll, listText_nil]; exact ReprK.listEmpty e1 e2 e3
    | cons r1 r2 => exact ReprK.list e1 e2 e3 na (by simpa using k.length_eq) fun i y e => k.item i y (by simpa using e)
  | _, _, .tup (its := its) (ds := ds) e1 e2 e3 r, s, z => by
    rw [PyData.shown] at z
    rw [PyData.showable] at s
    obtain ⟨bs, hb, k⟩ := Shs.told r s fun t ht => Nat.le_trans (tupleText_mem_le ht) z
    obtain ⟨na, hc⟩ := Sh.above (.tup e1 e2 e3 r) (n := PyData.depthAll ds) (by rw [PyData.depth]; exact Nat.lt_succ_self _) hb
    refine ⟨_, hc, ?_⟩
    rw [PyData.depth, PyData.shown]
    exact ReprK.tuple e1 e2 e3 na k
  | _, _, .dic (es := es) (ps := ps) e0 e1 e2 e3 r1 r2, s, z => by
    rw [PyData.shown] at z
    rw [PyData.showable] at s
    obtain ⟨s1, s2⟩ := PyData.showableKv_split ps s
    obtain ⟨b1, hb1, k1⟩ := Shs.told r1 s1 fun t ht => by
      obtain ⟨p, hp, hl⟩ := PyData.shownKv_key_le ps t ht
      exact Nat.le_trans hl (Nat.le_trans (dictText_mem_le hp) z)
    obtain ⟨b2, hb2, k2⟩ := Shs.told r2 s2 fun t ht => by
      obtain ⟨p, hp, hl⟩ := PyData.shownKv_val_le ps t ht
      exact Nat.le_trans hl (Nat.le_trans (dictText_mem_le hp) z)
    obtain ⟨na, hc⟩ := Sh.above (.dic e0 e1 e2 e3 r1 r2) (n := PyData.depthKv ps) (by rw [PyData.depth]; exact Nat.lt_succ_self _) ((hb1.mono (PyData.depthAll_keys_le ps)).append (hb2.mono (PyData.depthAll_vals_le ps)))
    refine ⟨_, hc, ?_⟩
    rw [PyData.depth, PyData.shown, PyData.shownKv_eq]
    exact ReprK.dict e1 e2 e3 e0 na (ReprEntriesK.of_two es _ _ (k1.more_le (fun _ q => List.mem_append_left _ q) (PyData.depthAll_keys_le ps)) (k2.more_le (fun _ q => List.mem_append_right _ q) (PyData.depthAll_vals_le ps)))
theorem Shs.told : ∀ {vs : List Value} {ds : List PyData}, Shs h vs ds → PyData.showableAll ds = true → (∀ t ∈ PyData.shownAll ds, t.length ≤ sizeLine) → ∃ bs, ReadAtMost h (PyData.depthAll ds) bs ∧ ReprAllK P w bs h (PyData.depthAll ds) vs (PyData.shownAll ds)
  | _, _, .nil, _, _ => ⟨[], (fun _ z => nomatch z), by rw [PyData.shownAll]; exact .nil⟩
  | _, _, .cons (d := d) (ds := ds) r rs, s, z => by
    rw [PyData.showableAll, Bool.and_eq_true] at s
    rw [PyData.shownAll] at z
    obtain ⟨b1, hb1, k1⟩ := Sh.told r s.1 (z _ List.mem_cons_self)
    obtain ⟨b2, hb2, k2⟩ := Shs.told rs s.2 fun t ht => z t (List.mem_cons_of_mem _ ht)
    refine ⟨b1 ++ b2, ?_, ?_⟩
    · rw [PyData.depthAll]
      exact (hb1.mono (Nat.le_max_left _ _)).append (hb2.mono (Nat.le_max_right _ _))
    · rw [PyData.depthAll, PyData.shownAll]
      exact .cons ((k1.more fun _ q => List.mem_append_left _ q).level_le (Nat.le_max_left _ _)) (k2.more_le (fun _ q => List.mem_append_right _ q) (Nat.le_max_right _ _))
end
/-- repr(x) -/
theorem Sh.repr {A : Around} {E : Value → Shared → Prop} {s : Shared} {Q : Value → Shared → Prop} {v : Value} {d : PyData} (r : Sh s.heap v d) (hs : d.showable = true) (hz : d.shown.length ≤ sizeLine) (hg : A.guards = some []) (hu : A.units + (d.depth + 1) < cLine)
    (hQ : ∀ h' u tk, (∀ b o, s.heap.get? b = some o → h'.get? b = some o) → Q (.str d.shown u) { s with heap := h', toks := tk }) : wpAny (model P w) A (call (.builtin "repr") [v]) Q E s := by
  have same : ∀ b o, s.heap.get? b = some o → s.heap.get? b = some o := fun _ _ e => e
  cases r with
  | non => exact PySem.P.repr_of_none (by rw [PyData.shown] at hQ; exact hQ s.heap _ _ same)
  | bl b =>
    refine PySem.P.repr_of_bool ?_
    rw [PyData.shown] at hQ
    cases b with
    | true => exact hQ s.heap _ _ same
    | false => exact hQ s.heap _ _ same
  | int i t => exact PySem.P.repr_of_int (by rw [PyData.showable] at hs; exact of_decide_eq_true hs) (by rw [PyData.shown] at hQ; exact hQ s.heap _ _ same)
  | str z t => exact PySem.P.repr_of_str (by rw [PyData.shown] at hQ; exact hQ s.heap _ _ same) (by rw [PyData.shown] at hz; exact hz)
  | lst e1 e2 e3 r =>
    rename_i a o its n ds
    have z := hz
    rw [PyData.shown] at z
    rw [PyData.showable] at hs
    rw [PyData.depth] at hu
    rw [PyData.shown] at hQ
    obtain ⟨bs, hb, k⟩ := Shs.told (P := P) (w := w) r hs fun t ht => Nat.le_trans (listText_mem_le ht) z
    obtain ⟨na, hc⟩ := Sh.above (.lst e1 e2 e3 r) (n := PyData.depthAll ds) (by rw [PyData.depth]; exact Nat.lt_succ_self _) hb
    refine call_repr_slot (by omega) ⟨_, e1, e2⟩ F.slot_list_repr.toG ?_
    cases r with
    | nil =>
      rw [PyData.shownAll, listText_nil] at hQ
      exact call_list_repr_empty ⟨_, e1, e2⟩ e1 e3 ⟨_, _, rfl, hQ s.heap _ _ same⟩
    | cons r1 r2 =>
      exact call_list_reprK e1 e2 e3 na (by simpa using k.length_eq) (fun i y e => k.item i y (by simpa using e)) hg (fun b _ => Clear.nil b) (by show A.units + 1 + (_ + 1) < cLine; omega) same (fun h' u tk hk => ⟨_, _, rfl, hQ h' u tk hk⟩) z
  | tup e1 e2 e3 r =>
    rename_i a o its n ds
    have z := hz
    rw [PyData.shown] at z
    rw [PyData.showable] at hs
    rw [PyData.depth] at hu
    rw [PyData.shown] at hQ
    obtain ⟨bs, hb, k⟩ := Shs.told (P := P) (w := w) r hs fun t ht => Nat.le_trans (tupleText_mem_le ht) z
    obtain ⟨na, hc⟩ := Sh.above (.tup e1 e2 e3 r) (n := PyData.depthAll ds) (by rw [PyData.depth]; exact Nat.lt_succ_self _) hb
    refine call_repr_slot (by omega) ⟨_, e1, e2⟩ F.slot_tuple_repr ?_
    exact call_tuple_reprK e1 e2 e3 na k hg (fun b _ => Clear.nil b) (by show A.units + 1 + (_ + 1) < cLine; omega) same (fun h' u tk hk => ⟨_, _, rfl, hQ h' u tk hk⟩) z
  | dic e0 e1 e2 e3 r1 r2 =>
    rename_i a o es n ps
    have z := hz
    rw [PyData.shown] at z
    rw [PyData.showable] at hs
    rw [PyData.depth] at hu
    rw [PyData.shown, PyData.shownKv_eq] at hQ
    obtain ⟨s1, s2⟩ := PyData.showableKv_split ps hs
    obtain ⟨b1, hb1, k1⟩ := Shs.told (P := P) (w := w) r1 s1 fun t ht => by
      obtain ⟨p, hp, hl⟩ := PyData.shownKv_key_le ps t ht
      exact Nat.le_trans hl (Nat.le_trans (dictText_mem_le hp) z)
    obtain ⟨b2, hb2, k2⟩ := Shs.told (P := P) (w := w) r2 s2 fun t ht => by
      obtain ⟨p, hp, hl⟩ := PyData.shownKv_val_le ps t ht
      exact Nat.le_trans hl (Nat.le_trans (dictText_mem_le hp) z)
    obtain ⟨na, hc⟩ := Sh.above (.dic e0 e1 e2 e3 r1 r2) (n := PyData.depthKv ps) (by rw [PyData.depth]; exact Nat.lt_succ_self _) ((hb1.mono (PyData.depthAll_keys_le ps)).append (hb2.mono (PyData.depthAll_vals_le ps)))
    refine call_repr_slot (by omega) ⟨_, e1, e2⟩ F.slot_dict_repr ?_
    exact call_dict_reprK e1 e2 e3 e0 na (ReprEntriesK.of_two es _ _ (k1.more_le (fun _ q => List.mem_append_left _ q) (PyData.depthAll_keys_le ps)) (k2.more_le (fun _ q => List.mem_append_right _ q) (PyData.depthAll_vals_le ps)))
      hg (fun b _ => Clear.nil b) (by show A.units + 1 + (_ + 1) < cLine; omega) same (fun h' u tk hk => ⟨_, _, rfl, hQ h' u tk hk⟩) (by rw [← PyData.shownKv_eq]; exact z)
end
/-! ### by the tracked heap -/
def kPy : Key → PyData
  | .inl i => .int i
  | .inr x => .str x
mutual
inductive Dq (K : PySem.W.Frag) (H : Hp) : V → PyData → Prop
  | non : Dq K H .non .none
  | bl (b : Bool) : Dq K H (.bl b) (.bool b)
  | int (i : Int) : Dq K H (.int i) (.int i)
  | str (x : Str) : Dq K H (.str x) (.str x)
  | lst {a : Addr} {xs : List V} {ds : List PyData} : SqL K H a xs → Dqs K H xs ds → Dq K H (.ref a) (.list ds)
  | tup {a : Addr} {xs : List V} {ds : List PyData} : SqT K H a xs → Dqs K H xs ds → Dq K H (.ref a) (.tuple ds)
  | dic {a : Addr} {kvs : List (Key × V)} {ps : List (PyData × PyData)} : H a = some (.dK kvs) → ps.map (·.1) = kvs.map (fun p => kPy p.1) → Dqs K H (kvs.map (·.2)) (ps.map (·.2)) → Dq K H (.ref a) (.dict ps)
inductive Dqs (K : PySem.W.Frag) (H : Hp) : List V → List PyData → Prop
  | nil : Dqs K H [] []
  | cons {v : V} {vs : List V} {d : PyData} {ds : List PyData} : Dq K H v d → Dqs K H vs ds → Dqs K H (v :: vs) (d :: ds)
end
section
variable {X : Cx} {pins : List (Addr × Obj)} {σ : L2.St} {H : Hp} {s : Shared}
theorem keys_sh {P : Program} {w : World} {h : Heap} : ∀ {es : List DictEntry} {kvs : List (Key × V)} {vs : List (Key × Value)}, KV kvs vs → Pairs (mixKind P w) es vs → Shs h (es.map (·.key)) (kvs.map fun p => kPy p.1) ∧ Vals (kvs.map (·.2)) (es.map (·.val))
  | _, _, _, .nil, .nil => ⟨.nil, .nil⟩
  | _, _, _, .cons (a := a) r rs, .cons (e := y) k e p => by
    obtain ⟨h1, h2⟩ := keys_sh rs p
    refine ⟨.cons ?_ h1, .cons (by show L2.RelV a.2 y.val; rw [e]; exact r.2) h2⟩
    show Sh h y.key (kPy a.1)
    rw [r.1]
    rcases keyIs_shape k with ⟨i, t, e1, e2⟩ | ⟨x, t, e1, e2⟩
    · rw [e1, e2]; exact .int i t
    · rw [e1, e2]; exact .str x t
mutual
theorem Dq.sh (I : Inv X pins σ H s) : ∀ {d : PyData} {v : V} {u : Value}, Dq X.K H v d → RelV v u → Sh s.heap u d
  | _, _, _, .non, r => by cases r; exact .non
  | _, _, _, .bl b, r => by cases r; exact .bl b
  | _, _, _, .int i, r => by obtain ⟨t, rfl⟩ := r; exact .int i t
  | _, _, _, .str x, r => by obtain ⟨t, rfl⟩ := r; exact .str x t
  | _, _, _, .lst hs ha, r => by
    cases r
    obtain ⟨its, rv, ⟨o, n, ho, hc, _, hd⟩, _⟩ := I.list hs
    exact .lst ho hc hd (Dqs.sh I ha rv)
  | _, _, _, .tup hs ha, r => by
    cases r
    obtain ⟨its, rv, ⟨o, ho, hc, n, hd⟩, _⟩ := I.tuple hs
    exact .tup ho hc hd (Dqs.sh I ha rv)
  | _, _, _, .dic h1 h2 h3, r => by
    cases r
    obtain ⟨hz, hsm, vs, rk, o, es, ep, ho, hx, hd, _, hp, _⟩ := dk_of I.hok h1
    obtain ⟨q1, q2⟩ := keys_sh (h := s.heap) rk hp
    exact .dic (es := es.toList) hsm ho hx.1 hd (by rw [h2]; exact q1) (Dqs.sh I h3 q2)
theorem Dqs.sh (I : Inv X pins σ H s) : ∀ {ds : List PyData} {vs : List V} {us : List Value}, Dqs X.K H vs ds → Vals vs us → Shs s.heap us ds
  | _, _, _, .nil, r => by cases r; exact .nil
  | _, _, _, .cons h1 h2, r => by
    cases r with
    | cons r1 r2 => exact .cons (Dq.sh I h1 r1) (Dqs.sh I h2 r2)
end
end
section
variable {g : Gl0} {w : Wr} {H Φ : Hp} {v : V} {d : D}
theorem pyk_fst : ∀ (ds : List (Key × D)), (D.pyk ds).map (·.1) = ds.map fun p => kPy p.1
  | [] => rfl
  | (k, x) :: r => by
    have e := pyk_fst r
    cases k <;> (show _ :: (D.pyk r).map (·.1) = _ :: _; rw [e]; rfl)
theorem RpK.keys : ∀ {vs : List (Key × V)} {ds : List (Key × D)}, RpK g w H vs ds → vs.map (·.1) = ds.map (·.1)
  | _, _, .nil => rfl
  | _, _, .cons _ r => by rw [List.map_cons, List.map_cons, RpK.keys r]
mutual
theorem Rp.dq : ∀ {v : V} {d : D}, Rp g w H v d → d.plain = true → Dq g.K H v d.py
  | _, _, .non, _ => by rw [D.py]; exact .non
  | _, _, .bl b, _ => by rw [D.py]; exact .bl b
  | _, _, .int i, _ => by rw [D.py]; exact .int i
  | _, _, .str x, _ => by rw [D.py]; exact .str x
  | _, _, .tup h r, p => by
    rw [D.py]
    exact .tup h.sq (Rps.dq r (by rw [D.plain] at p; exact p))
  | _, _, .lst h r, p => by
    rw [D.py]
    exact .lst (SqL.of h) (Rps.dq r (by rw [D.plain] at p; exact p))
  | _, _, .scr _, p => by rw [D.plain] at p; cases p
  | _, _, .dic h r, p => by
    rw [D.py]
    refine .dic h ?_ (RpK.dq r (by rw [D.plain] at p; exact p))
    have e : (fun p : Key × D => kPy p.1) = kPy ∘ Prod.fst := rfl
    have e' : (fun p : Key × V => kPy p.1) = kPy ∘ Prod.fst := rfl
    rw [pyk_fst, e, e', ← List.map_map, ← List.map_map]
    exact congrArg _ (RpK.keys r).symm
  | _, _, .obj _ _ _, p => by rw [D.plain] at p; cases p
  | _, _, .src _, p => by rw [D.plain] at p; cases p
  | _, _, .mem _, p => by rw [D.plain] at p; cases p
theorem Rps.dq : ∀ {vs : List V} {ds : List D}, Rps g w H vs ds → D.plains ds = true → Dqs g.K H vs (D.pys ds)
  | _, _, .nil, _ => by rw [D.pys]; exact .nil
  | _, _, .cons h r, p => by
    rw [D.pys]
    rw [D.plains, Bool.and_eq_true] at p
    exact .cons (Rp.dq h p.1) (Rps.dq r p.2)
theorem RpK.dq : ∀ {vs : List (Key × V)} {ds : List (Key × D)}, RpK g w H vs ds → D.plaink ds = true → Dqs g.K H (vs.map (·.2)) ((D.pyk ds).map (·.2))
  | _, _, .nil, _ => by rw [D.pyk]; exact .nil
  | _, _, .cons (k := k) h r, p => by
    rw [D.plaink, Bool.and_eq_true] at p
    have q1 := Rp.dq h p.1
    have q2 := RpK.dq r p.2
    cases k <;> exact .cons q1 q2
end
theorem Nw.dq (sub : Same Φ H) (h : Nw g w Φ H v d) (p : d.plain = true) : Dq g.K H v d.py := by
  rcases h with h | ⟨q, vs, xs, e, e2, h, r⟩
  · exact Rp.dq (Rp.mono sub (WSub.refl w) h) p
  · subst e e2
    rw [D.py]
    exact .lst (SqL.of h) (Rps.dq (Rps.mono sub (WSub.refl w) r) (by rw [D.plain] at p; exact p))
end
end VI
set_option Elab.async false
set_option linter.all false
set_option maxRecDepth 100000
set_option maxHeartbeats 4000000
/-! VID: sorted of ints, of tuples of ints. -/
namespace VI
open PySem PySem.Spec PyProof.Rows L2 SrtO
/-! ### there is just one ascending list -/
theorem perm_uniq {α : Type} {R : α → α → Prop} (anti : ∀ x y, R x y → R y x → x = y) : ∀ {l m : List α}, l.Pairwise R → m.Pairwise R → l.Perm m → l = m
  | [], m, _, _, h => (List.Perm.eq_nil h.symm).symm
  | x :: l, [], _, _, h => absurd h.length_eq (by simp)
  | x :: l, y :: m, hl, hm, h => by
    have e : x = y := by
      have h1 : x ∈ y :: m := h.mem_iff.mp List.mem_cons_self
      have h2 : y ∈ x :: l := h.mem_iff.mpr List.mem_cons_self
      rcases List.mem_cons.mp h1 with e | h1
      · exact e
      · rcases List.mem_cons.mp h2 with e | h2
        · exact e.symm
        · exact anti x y ((List.pairwise_cons.mp hl).1 y h2) ((List.pairwise_cons.mp hm).1 x h1)
    subst e
    rw [perm_uniq anti (List.pairwise_cons.mp hl).2 (List.pairwise_cons.mp hm).2 h.cons_inv]
section
variable {α : Type} {lt : α → α → Bool}
theorem ins_perm (x : α) : ∀ l : List α, (insL lt x l).Perm (x :: l)
  | [] => List.Perm.refl _
  | y :: ys => by
    rw [insL]
    split
    · exact List.Perm.refl _
    · exact ((ins_perm x ys).cons y).trans (List.Perm.swap x y ys)
theorem srt_perm : ∀ l : List α, (srtL lt l).Perm l
  | [] => List.Perm.refl _
  | x :: xs => (ins_perm x _).trans ((srt_perm xs).cons x)
theorem ins_srtd (O : Swo lt) (x : α) : ∀ {l : List α}, Srtd lt l → Srtd lt (insL lt x l)
  | [], _ => List.pairwise_singleton _ _
  | y :: ys, h => by
    rw [insL]
    split
    · rename_i hx
      refine List.pairwise_cons.mpr ⟨fun z hz => ?_, h⟩
      rcases List.mem_cons.mp hz with rfl | hz
      · exact O.asym _ _ hx
      · exact O.asym _ _ (O.ltle hx ((List.pairwise_cons.mp h).1 z hz))
    · rename_i hx
      have hx : lt x y = false := by simpa using hx
      refine List.pairwise_cons.mpr ⟨fun z hz => ?_, ins_srtd O x (List.pairwise_cons.mp h).2⟩
      rcases List.mem_cons.mp ((ins_perm x ys).mem_iff.mp hz) with rfl | hz
      · exact hx
      · exact (List.pairwise_cons.mp h).1 z hz
theorem srt_srtd (O : Swo lt) : ∀ l : List α, Srtd lt (srtL lt l)
  | [] => List.Pairwise.nil
  | x :: xs => ins_srtd O x (srt_srtd O xs)
theorem srt_uniq (O : Swo lt) (anti : ∀ x y, lt x y = false → lt y x = false → x = y) {l m : List α} (h : Srtd lt m) (p : m.Perm l) : m = srtL lt l :=
  perm_uniq (fun x y h1 h2 => anti x y h2 h1) h (srt_srtd O l) (p.trans (srt_perm l).symm)
end
def ltI (i j : Int) : Bool := decide (i < j)
theorem swo_ltI : Swo ltI := by
  refine ⟨fun x y h => ?_, fun x y z h1 h2 => ?_⟩
  · have a := of_decide_eq_true (p := x < y) h
    exact decide_eq_false (p := y < x) (by omega)
  · have a := of_decide_eq_false (p := y < x) h1
    have b := of_decide_eq_false (p := z < y) h2
    exact decide_eq_false (p := z < x) (by omega)
theorem ltI_anti (x y : Int) (h1 : ltI x y = false) (h2 : ltI y x = false) : x = y := by
  have a := of_decide_eq_false (p := x < y) h1
  have b := of_decide_eq_false (p := y < x) h2
  omega
theorem srtI_eq {ns ns' : List Int} (p : ns'.Perm ns) (h : ns'.Pairwise (· ≤ ·)) : ns' = srtL (fun i j : Int => decide (i < j)) ns :=
  srt_uniq swo_ltI ltI_anti (h.imp fun {a b} hab => decide_eq_false (p := b < a) (by omega)) p
theorem lexI_cons (x y : Int) (xs ys : List Int) : lexI (x :: xs) (y :: ys) = if x = y then lexI xs ys else decide (x < y) := by rw [lexI]
theorem swo_lexI : Swo lexI := by
  refine ⟨fun x => ?_, fun x => ?_⟩
  · induction x with
    | nil => intro y h; cases y <;> first | rfl | cases h
    | cons a x ih =>
      intro y h
      cases y with
      | nil => cases h
      | cons b y =>
        rw [lexI_cons] at h ⊢
        by_cases e : a = b
        · subst e
          rw [if_pos rfl] at h ⊢
          exact ih y h
        · rw [if_neg e] at h
          rw [if_neg (fun z => e z.symm)]
          have := of_decide_eq_true h
          exact decide_eq_false (by omega)
  · induction x with
    | nil =>
      intro y z h1 h2
      cases z <;> rfl
    | cons a x ih =>
      intro y z h1 h2
      cases y with
      | nil => cases h1
      | cons b y =>
        cases z with
        | nil => cases h2
        | cons c z =>
          rw [lexI_cons] at h1 h2 ⊢
          by_cases e1 : b = a
          · subst e1
            rw [if_pos rfl] at h1
            by_cases e2 : c = b
            · subst e2
              rw [if_pos rfl] at h2 ⊢
              exact ih y z h1 h2
            · rw [if_neg e2] at h2 ⊢
              exact h2
          · rw [if_neg e1] at h1
            have q1 := of_decide_eq_false h1
            by_cases e2 : c = b
            · subst e2
              rw [if_neg e1]
              exact h1
            · rw [if_neg e2] at h2
              have q2 := of_decide_eq_false h2
              rw [if_neg (by omega)]
              exact decide_eq_false (by omega)
theorem lexI_anti : ∀ x y : List Int, lexI x y = false → lexI y x = false → x = y
  | [], [], _, _ => rfl
  | [], _ :: _, h, _ => by cases h
  | _ :: _, [], _, h => by cases h
  | a :: x, b :: y, h1, h2 => by
    rw [lexI_cons] at h1 h2
    by_cases e : a = b
    · subst e
      rw [if_pos rfl] at h1 h2
      rw [lexI_anti x y h1 h2]
    · rw [if_neg e] at h1
      rw [if_neg (fun z => e z.symm)] at h2
      have := of_decide_eq_false h1
      have := of_decide_eq_false h2
      omega
/-! ### tuples of ints at the machine -/
def TupInts (h : Heap) (v : Value) (ns : List Int) : Prop := ∃ a o vs n, v = .ref a ∧ h.get? a = some o ∧ o.cls = .type "tuple" ∧ o.data = .seq (List.toArray vs) n ∧ IntsAre vs ns
theorem TupInts.keeps {h h' : Heap} {v : Value} {ns : List Int} (p : TupInts h v ns) (k : ∀ b o, h.get? b = some o → o.cls = .type "tuple" → h'.get? b = some o) : TupInts h' v ns := by
  obtain ⟨a, o, vs, n, e, ho, hc, hd, hi⟩ := p
  exact ⟨a, o, vs, n, e, k _ _ ho hc, hc, hd, hi⟩
def intV : Value → Option Int
  | .int i _ => some i
  | _ => none
theorem intV_of : ∀ {vs : List Value} {ns : List Int}, IntsAre vs ns → vs.filterMap intV = ns
  | _, _, .nil => rfl
  | _, _, .cons n t r => by
    rw [List.filterMap_cons]
    show _ :: _ = _
    rw [intV_of r]
def keyH (h : Heap) : Value → List Int
  | .ref a => (match h.get? a with
    | some o => (match o.data with
      | .seq xs _ => xs.toList.filterMap intV
      | _ => [])
    | none => [])
  | _ => []
theorem keyH_of {h : Heap} {v : Value} {ns : List Int} (p : TupInts h v ns) : keyH h v = ns := by
  obtain ⟨a, o, vs, n, rfl, ho, hc, hd, hi⟩ := p
  unfold keyH
  simp only [ho, hd]
  exact intV_of hi
section
variable {prog : Program} {w : World} {A : Around} {E : Value → Shared → Prop} {s : Shared}
theorem kat_lex {Q : Bool → Shared → Prop} {fin : Bool} : ∀ {us us' : List Value} {ns ns' : List Int} (i : Nat), IntsAre us ns → IntsAre us' ns' → fin = decide (ns.length < ns'.length) → Q (lexI ns ns') s → PySem.W.KatLex prog w A true fin Q (us.zip us') i s
  | _, _, _, _, i, .nil, .nil, e, h => by subst e; exact PySem.W.kat_nil h
  | _, _, _, _, i, .nil, .cons _ _ _, e, h => by
    subst e
    refine PySem.W.kat_nil ?_
    have z : ∀ (n : Int) (ns : List Int), decide (([] : List Int).length < (n :: ns).length) = lexI [] (n :: ns) := fun n ns => decide_eq_true (Nat.succ_pos _)
    rw [z]
    exact h
  | _, _, _, _, i, .cons _ _ _, .nil, e, h => by
    subst e
    refine PySem.W.kat_nil ?_
    have z : ∀ (n : Int) (ns : List Int), decide ((n :: ns).length < ([] : List Int).length) = lexI (n :: ns) [] := fun n ns => decide_eq_false (Nat.not_lt_zero _)
    rw [z]
    exact h
  | _, _, _, _, i, .cons x t r, .cons x' t' r', e, h => by
    rw [lexI_cons] at h
    rw [List.zip_cons_cons]
    refine PySem.W.kat_cons (SeqAt.EqAt.int_int x t x' t' prog w _ _ ?_)
    refine PySem.W.kat_go (fun e1 => ?_) (fun e1 => ?_)
    · have ex : x = x' := by simpa using e1
      rw [if_pos ex] at h
      refine PySem.W.kat_yes (kat_lex (i + 1) r r' ?_ h)
      rw [e]
      simp
    · have ex : ¬ x = x' := by simpa using e1
      rw [if_neg ex] at h
      cases i with
      | zero => exact PySem.W.kat_no (oneLt_int h)
      | succ i =>
        refine PySem.W.kat_no ?_
        have z : (true && (i + 1) == 0) = false := by simp
        rw [z]
        exact PySem.W.kat_one _ _ (PyProof.Rows.lt_int h)
theorem tups_cmp {vs : List Value} {k : Value → List Int} (hp : ∀ v ∈ vs, TupInts s.heap v (k v)) : Cmp prog w A s (tuples' true) (fun p => p.1 ∈ vs) (lt2 fun v u => lexI (k v) (k u)) := by
  intro p q hm hm'
  have h1 := hp _ hm
  have h2 := hp _ hm'
  show wpAny (model prog w) A (keyLt' (tuples' true) p.1 q.1) (fun r s' => s' = s ∧ r = lexI (k p.1) (k q.1)) (fun _ _ => False) s
  obtain ⟨a, o, us, n, e, ho, hc, hd, hi⟩ := h1
  obtain ⟨a', o', us', n', e', ho', hc', hd', hi'⟩ := h2
  generalize k p.1 = ns at hi ⊢
  generalize k q.1 = ns' at hi' ⊢
  rw [e, e']
  refine PySem.W.kat_lt ho hd ho' hd' ?_
  exact kat_lex 0 hi hi' (by rw [List.size_toArray, List.size_toArray, hi.length, hi'.length]) ⟨rfl, rfl⟩
theorem firsts_ofT {h : Heap} : ∀ {vs : List Value}, (∀ v ∈ vs, ∃ ns, TupInts h v ns ∧ ns ≠ []) → ∃ fs : List Value, PySem.W.KatTups h vs fs ∧ fs.length = vs.length ∧ ∀ f ∈ fs, ∃ x t, f = Value.int x t
  | [], _ => ⟨[], PySem.W.KatTups.nil, rfl, fun _ hm => by simp at hm⟩
  | v :: vs, hp => by
    obtain ⟨fs, h1, h2, h3⟩ := firsts_ofT (vs := vs) fun v' hm => hp v' (List.mem_cons_of_mem _ hm)
    obtain ⟨ns, ⟨a, o, us, n, e, ho, hc, hd, hi⟩, hne⟩ := hp v (List.mem_cons_self ..)
    subst e
    cases hi with
    | nil => exact absurd rfl hne
    | cons x t r =>
      refine ⟨.int x t :: fs, PySem.W.KatTups.cons ho hc hd rfl h1, by rw [List.length_cons, List.length_cons, h2], fun f hm => ?_⟩
      rcases List.mem_cons.mp hm with rfl | hm
      · exact ⟨x, t, rfl⟩
      · exact h3 f hm
theorem tups_sortableO {a : Addr} {vs : List Value} {k : Value → List Int} (h0 : 0 < vs.length) (hp : ∀ v ∈ vs, TupInts s.heap v (k v) ∧ k v ≠ []) (ha : ∀ o, s.heap.get? a = some o → o.cls ≠ .type "tuple") : SortableO prog w A s a vs fun v u => lexI (k v) (k u) := by
  intro h' keep
  have hp' : ∀ v ∈ vs, TupInts h' v (k v) := fun v hm => (hp v hm).1.keeps fun b o e c => keep b o (fun z => by subst z; exact ha o e c) e
  obtain ⟨fs, h1, h2, h3⟩ := firsts_ofT fun v hm => ⟨_, hp' v hm, (hp v hm).2⟩
  refine ⟨tuples' true, fun Q E hq => ?_, tups_cmp hp'⟩
  refine PySem.W.kat_kind (T := .type "int") h1 (by omega) (fun f hm => ?_) (by rfl) ?_
  · obtain ⟨x, t, rfl⟩ := h3 f hm
    exact PySem.W.Looks.now
  · have e : (Value.type "int" != Value.type "tuple") = true := by first | decide +kernel | rfl | decide
    rw [e]
    exact hq
theorem swo_keyH (k : Value → List Int) : Swo fun v u => lexI (k v) (k u) := ⟨fun x y h => swo_lexI.asym _ _ h, fun x y z h1 h2 => swo_lexI.tr _ _ _ h1 h2⟩
theorem sorted_tups {l : Addr} {vs : List Value} {k : Value → List Int} {Q : Value → Shared → Prop} (hl : s.heap.IsList l vs.toArray) (hz : vs.length ≤ sizeLine) (hp : ∀ v ∈ vs, TupInts s.heap v (k v) ∧ k v ≠ [])
    (h : ∀ (h' : Heap) (d : Addr) (out : List Value), Srtd (fun v u => lexI (k v) (k u)) out → Stb (fun v u => lexI (k v) (k u)) out vs → (∀ b o, s.heap.get? b = some o → h'.get? b = some o) → s.heap.objs.size ≤ d → (∃ n, h'.get? d = some (seqObj "list" out.toArray n)) → Q (.ref d) { s with heap := h' }) :
    wpAny (model prog w) A (call (.builtin "sorted") [.ref l]) Q E s := by
  refine sorted_ord (swo_keyH k) hl hz (fun h2 h₁ a ha kk => ?_) fun out hs hb => ?_
  · refine tups_sortableO (s := { s with heap := h₁ }) (by omega) (fun v hm => ⟨(hp v hm).1.keeps fun b o e _ => (kk b o e).2, (hp v hm).2⟩) fun o e => ?_
    have e' : some o = some (seqObj "list" vs.toArray 0) := e.symm.trans ha
    cases e'
    intro c
    exact absurd (Value.type.inj c) (by decide)
  · exact h _ _ out hs hb (fun b o e => sortedAll_old e) (Nat.le_succ _) (sortedAll_at s.heap vs out.toArray)
end
/-! ### as a rule of the layer -/
/-- the tuples and their ints -/
inductive Tups (K : PySem.W.Frag) (H : Hp) : List V → List (List Int) → Prop
  | nil : Tups K H [] []
  | cons {t : Addr} {k : List Int} {xs : List V} {ks : List (List Int)} : SqT K H t (k.map V.int) → k ≠ [] → Tups K H xs ks → Tups K H (V.ref t :: xs) (k :: ks)
def rSortedT (K : PySem.W.Frag) : List V → Hp → VK → Prop := fun vs H Q => ∃ (a : Addr) (xs : List V) (ks : List (List Int)), vs = [V.ref a] ∧ SqL K H a xs ∧ Tups K H xs ks ∧
  ∀ (ys : List V) (ks' : List (List Int)) (p : Addr), ys.length = ks'.length → (ys.zip ks').Perm (xs.zip ks) → ks' = srtL lexI ks → H p = none → Q (.ref p) (upd H p (.lst ys))
section
variable {X : Cx}
theorem Tups.refs {K : PySem.W.Frag} {H : Hp} : ∀ {xs : List V} {ks : List (List Int)}, Tups K H xs ks → ∀ x ∈ xs, ∃ t, x = V.ref t
  | _, _, .nil, _, h => absurd h (by simp)
  | _, _, .cons _ _ r, x, h => by
    rcases List.mem_cons.mp h with rfl | h
    · exact ⟨_, rfl⟩
    · exact r.refs x h
theorem tups_keys {pins : List (Addr × Obj)} {σ : L2.St} {H : Hp} {s : Shared} (I : Inv X pins σ H s) : ∀ {xs : List V} {ks : List (List Int)} {its : List Value}, Tups X.K H xs ks → Vals xs its → its.map (keyH s.heap) = ks ∧ ∀ v ∈ its, TupInts s.heap v (keyH s.heap v) ∧ keyH s.heap v ≠ []
  | _, _, _, .nil, .nil => ⟨rfl, fun v h => absurd h (by simp)⟩
  | _, _, _, .cons (t := t) (k := k) h1 h2 r, .cons ru rt => by
    obtain ⟨e1, e2⟩ := tups_keys I r rt
    cases ru
    obtain ⟨its2, r2, ⟨o, ho, hc, n, hd⟩, hs⟩ := I.tuple h1
    have hT : TupInts s.heap (.ref t) k := ⟨t, o, its2, n, rfl, ho, hc, hd, intsAre_of r2⟩
    have hk := keyH_of hT
    refine ⟨by rw [List.map_cons, hk, e1], fun v hv => ?_⟩
    rcases List.mem_cons.mp hv with rfl | hv
    · rw [hk]
      exact ⟨hT, h2⟩
    · exact e2 v hv
theorem cr_sortedT : CallR X (.builtin "sorted") (rSortedT X.K) := by
  intro pins s σ H vs us Q I r h
  obtain ⟨a, xs, ks, rfl, hs, hT, q⟩ := h
  obtain ⟨its, rv, hl, hz⟩ := I.list hs
  obtain ⟨u, rfl, ru⟩ := vals1 r
  obtain rfl : u = Value.ref a := ru
  obtain ⟨e1, e2⟩ := refs_back rv hT.refs
  obtain ⟨k1, k2⟩ := tups_keys I hT rv
  refine sorted_tups (k := keyH s.heap) hl.isList (by rw [← rv.length]; exact hz) k2 fun h' d out h1 h2 kp hd hn => ?_
  have h3 : ∀ u ∈ out, ∃ a, u = Value.ref a := fun u hu => e2 u (h2.perm.mem_iff.mp hu)
  obtain ⟨n, hn⟩ := hn
  have hlen : (out.map backV).length ≤ sizeLine := by
    rw [List.length_map, h2.perm.length_eq]
    rw [rv.length] at hz
    exact hz
  have zm : ∀ l : List Value, (l.map backV).zip (l.map (keyH s.heap)) = l.map fun v => (backV v, keyH s.heap v) := fun l => by
    rw [List.zip_map']
  refine ⟨.ref d, upd H d (.lst (out.map backV)), I.laid (t' := s.toks) kp hd ⟨hlen, out, n, vals_back h3, hn⟩, rfl, q _ (out.map (keyH s.heap)) d (by rw [List.length_map, List.length_map]) ?_ ?_ (I.hok.fresh hd)⟩
  · rw [e1, ← k1, zm, zm]
    exact h2.perm.map _
  · rw [← k1]
    refine srt_uniq swo_lexI lexI_anti ?_ (h2.perm.map _)
    exact List.pairwise_map.mpr h1
/-- sorted of ints, of tuples of ints -/
def rSortedU (K : PySem.W.Frag) : List V → Hp → VK → Prop := fun vs H Q => rSortedI K vs H Q ∨ rSortedT K vs H Q
theorem cr_sortedU : CallR X (.builtin "sorted") (rSortedU X.K) := by
  intro pins s σ H vs us Q I r h
  rcases h with h | h
  · exact cr_sortedI pins s σ H vs us Q I r h
  · exact cr_sortedT pins s σ H vs us Q I r h
end
end VI
set_option Elab.async false
set_option linter.all false
set_option maxRecDepth 100000
set_option maxHeartbeats 4000000
/-! VIE: sorted(x, reverse=True) of ints, of tuples of ints. -/
namespace VI
open PySem PySem.Spec PyProof.Rows L2 SrtO
section
variable {prog : Program} {w : World} {A : Around} {E : Value → Shared → Prop} {s : Shared}
theorem sorted_tupsR {l : Addr} {vs : List Value} {k : Value → List Int} {Q : Value → Shared → Prop} (hl : s.heap.IsList l vs.toArray) (hz : vs.length ≤ sizeLine) (hp : ∀ v ∈ vs, TupInts s.heap v (k v) ∧ k v ≠ [])
    (h : ∀ (h' : Heap) (d : Addr) (out : List Value), Srtd (fun v u => lexI (k v) (k u)) out → Stb (fun v u => lexI (k v) (k u)) out vs.reverse → (∀ b o, s.heap.get? b = some o → h'.get? b = some o) → s.heap.objs.size ≤ d → (∃ n, h'.get? d = some (seqObj "list" out.reverse.toArray n)) → Q (.ref d) { s with heap := h' }) :
    wpAny (model prog w) A (call (.builtin "sorted") [.ref l] [(Str.ofString "reverse", .bool true)]) Q E s := by
  refine SrtR.sorted_ordK (b := true) (fun _ => rfl) (PyProof.Rows.args_sorted_rev _ _) (fun _ => PyProof.Rows.args_list_sort_rev _ _) (swo_keyH k) hl hz (fun h2 h₁ a ha kk => ?_) fun out hs hb => ?_
  · refine tups_sortableO (s := { s with heap := h₁ }) (by omega) (fun v hm => ⟨(hp v hm).1.keeps fun b o e _ => (kk b o e).2, (hp v hm).2⟩) fun o e => ?_
    have e' : some o = some (seqObj "list" vs.toArray 0) := e.symm.trans ha
    cases e'
    intro c
    exact absurd (Value.type.inj c) (by decide)
  · rw [if_pos rfl] at hb
    rw [if_pos rfl]
    have e1 : out.toArray.reverse = out.reverse.toArray := by simp
    rw [e1]
    exact h _ _ out hs hb (fun b o e => sortedAll_old e) (Nat.le_succ _) (sortedAll_at s.heap vs out.reverse.toArray)
end
def rSortedTR (K : PySem.W.Frag) : List V → List V → Hp → VK → Prop := fun vs zs H Q => ∃ (a : Addr) (xs : List V) (ks : List (List Int)), vs = [V.ref a] ∧ zs = [.bl true] ∧ SqL K H a xs ∧ Tups K H xs ks ∧
  ∀ (ys : List V) (ks' : List (List Int)) (p : Addr), ys.length = ks'.length → (ys.zip ks').Perm (xs.zip ks) → ks' = (srtL lexI ks).reverse → H p = none → Q (.ref p) (upd H p (.lst ys))
def rSortedUR (K : PySem.W.Frag) : List V → List V → Hp → VK → Prop := fun vs zs H Q => rSortedKw K true [.bl true] vs zs H Q ∨ rSortedTR K vs zs H Q
section
variable {X : Cx}
theorem cr_sortedTR : CallRK X (.builtin "sorted") [Str.ofString "reverse"] (rSortedTR X.K) := by
  intro pins s σ H vs zs us ws Q I r rz h
  obtain ⟨a, xs, ks, rfl, rfl, hs, hT, q⟩ := h
  obtain ⟨w1, rfl, e0⟩ := vals1 rz
  obtain rfl : w1 = Value.bool true := e0
  obtain ⟨its, rv, hl, hz⟩ := I.list hs
  obtain rfl := Vals.ref1 r
  obtain ⟨e1, e2⟩ := refs_back rv hT.refs
  obtain ⟨k1, k2⟩ := tups_keys I hT rv
  refine sorted_tupsR (k := keyH s.heap) hl.isList (by rw [← rv.length]; exact hz) k2 fun h' d out h1 h2 kp hd hn => ?_
  have hperm : out.Perm its := h2.perm.trans (List.reverse_perm _)
  have h3 : ∀ u ∈ out.reverse, ∃ a, u = Value.ref a := fun u hu => e2 u (hperm.mem_iff.mp (List.mem_reverse.mp hu))
  obtain ⟨n, hn⟩ := hn
  have hlen : (out.reverse.map backV).length ≤ sizeLine := by
    rw [List.length_map, List.length_reverse, hperm.length_eq]
    rw [rv.length] at hz
    exact hz
  have zm : ∀ l : List Value, (l.map backV).zip (l.map (keyH s.heap)) = l.map fun v => (backV v, keyH s.heap v) := fun l => by
    rw [List.zip_map']
  refine ⟨.ref d, upd H d (.lst (out.reverse.map backV)), I.laid (t' := s.toks) kp hd ⟨hlen, out.reverse, n, vals_back h3, hn⟩, rfl, q _ (out.reverse.map (keyH s.heap)) d (by rw [List.length_map, List.length_map]) ?_ ?_ (I.hok.fresh hd)⟩
  · rw [e1, ← k1, zm, zm]
    exact ((List.reverse_perm _).trans hperm).map _
  · rw [← k1, List.map_reverse]
    congr 1
    refine srt_uniq swo_lexI lexI_anti ?_ (hperm.map _)
    exact List.pairwise_map.mpr h1
theorem cr_sortedUR : CallRK X (.builtin "sorted") [Str.ofString "reverse"] (rSortedUR X.K) := by
  intro pins s σ H vs zs us ws Q I r rz h
  rcases h with h | h
  · exact cr_sortedRev pins s σ H vs zs us ws Q I r rz h
  · exact cr_sortedTR pins s σ H vs zs us ws Q I r rz h
end
theorem srtI_eqR {ns ns' : List Int} (p : ns'.Perm ns) (h : OrdB true ns') : ns' = (srtL (fun i j : Int => decide (i < j)) ns).reverse := by
  have h : ns'.Pairwise (· ≥ ·) := h
  have h2 : ns'.reverse = srtL (fun i j : Int => decide (i < j)) ns := srtI_eq ((List.reverse_perm _).trans p) (List.pairwise_reverse.mpr h)
  rw [← h2, List.reverse_reverse]
end VI
set_option Elab.async false
set_option linter.all false
set_option maxRecDepth 100000
set_option maxHeartbeats 4000000
/-! VId: operators, comparisons, subscripts, slices, built-in functions of one argument. -/
namespace VI
open PySem PySem.Spec PyProof.Rows L2
theorem ok?_some {α : Type} {c : Bool} {a b : α} (h : ok? c a = some b) : c = true ∧ a = b := by
  unfold ok? at h
  split at h
  · rename_i hc; exact ⟨hc, Option.some.inj h⟩
  · cases h
theorem lim_eq : lim = sizeLine := by rw [sizeLine_eq]; rfl
section
variable {g : Gl0} {Wx : WX} {C : Cal} {X : Cx}
/-! ### operators -/
/-- t + u -/
def rCatF (K : PySem.W.Frag) : R2 := fun x y H Q => ∃ a b xs ys, x = .ref a ∧ y = .ref b ∧ SqT K H a xs ∧ SqT K H b ys ∧ xs.length + ys.length ≤ sizeLine ∧
  (xs = [] → Q (.ref b) H) ∧ (xs ≠ [] → ys = [] → Q (.ref a) H) ∧ (xs ≠ [] → ys ≠ [] → NewT (xs ++ ys) H Q)
theorem op_catF : OpR X (binaryOp .Add) (rCatF X.K) := by
  intro pins s σ H x y v u Q I rx ry h
  obtain ⟨a, b, xs, ys, rfl, rfl, ha, hb, hz, q0, q1, q2⟩ := h
  obtain rfl : v = Value.ref a := rx
  obtain rfl : u = Value.ref b := ry
  obtain ⟨its, r1, p1, _⟩ := I.tuple ha
  obtain ⟨its2, r2, p2, _⟩ := I.tuple hb
  by_cases hx : xs = []
  · subst hx
    cases r1
    exact cat_tup0 p1 p2 ⟨.ref b, H, I, rfl, q0 rfl⟩
  · refine HT.cat_tup p1 p2 (fun z => hx (r1.nil_iff.mp z)) (fun z => ⟨.ref a, H, I, rfl, q1 hx (r2.nil_iff.mp z)⟩) (fun z => ?_) (by rw [← r1.length, ← r2.length]; exact hz)
    exact newT_laid I (r1.append r2) (by rw [List.length_append]; exact hz) (q2 hx fun w => z (r2.nil_iff.mpr w)) s.toks
def rAdd (K : PySem.W.Frag) : R2 := fun x y H Q => (∃ i j, x = .int i ∧ y = .int j ∧ Q (.int (i + j)) H) ∨ (∃ i j, x = .str i ∧ y = .str j ∧ i.length + j.length ≤ sizeLine ∧ Q (.str (i ++ j)) H) ∨ rCat x y H Q ∨ rCatF K x y H Q
theorem op_addA : OpR X (binaryOp .Add) (rAdd X.K) := by
  intro pins s σ H x y v u Q I rx ry h
  rcases h with h | h | h | h
  · exact op_add pins s σ H x y v u Q I rx ry h
  · exact op_add_str pins s σ H x y v u Q I rx ry h
  · exact op_cat pins s σ H x y v u Q I rx ry h
  · exact op_catF pins s σ H x y v u Q I rx ry h
theorem ok_add : OpOk g Wx (binD .add) (rAdd g.K) := by
  intro σ Φ H W ρ S x y a b v Q s hx hy he p
  cases a with
  | int i =>
    cases b with
    | int j =>
      cases he
      obtain rfl := hx.int
      obtain rfl := hy.int
      exact .inl ⟨i, j, rfl, rfl, p.okv s (.int _)⟩
    | _ => cases he
  | str i =>
    cases b with
    | str j =>
      obtain ⟨hc, rfl⟩ := ok?_some he
      obtain rfl := hx.str
      obtain rfl := hy.str
      exact .inr (.inl ⟨i, j, rfl, rfl, by rw [← lim_eq]; exact of_decide_eq_true hc, p.okv s (.str _)⟩)
    | _ => cases he
  | lst xs =>
    cases b with
    | lst ys =>
      obtain ⟨hc, rfl⟩ := ok?_some he
      obtain ⟨q, vs, rfl, h1, r1⟩ := hx.lst s.sub
      obtain ⟨q', ws, rfl, h2, r2⟩ := hy.lst s.sub
      exact .inr (.inr (.inl ⟨q, q', vs, ws, rfl, rfl, h1, h2, by rw [r1.length, r2.length, ← lim_eq]; exact of_decide_eq_true hc, fun a ha => new_ow s p (r1.append r2) ha⟩))
    | _ => cases he
  | tup xs =>
    cases b with
    | tup ys =>
      obtain ⟨hc, rfl⟩ := ok?_some he
      obtain ⟨q, vs, rfl, h1, h1', r1⟩ := hx.tup s.sub
      obtain ⟨q', ws, rfl, h2, h2', r2⟩ := hy.tup s.sub
      refine .inr (.inr (.inr ⟨q, q', vs, ws, rfl, rfl, h1, h2, by rw [r1.length, r2.length, ← lim_eq]; exact of_decide_eq_true hc, fun e => ?_, fun _ e => ?_, fun _ _ => new_tup s p (r1.append r2)⟩))
      · subst e
        cases r1
        exact Pst.okv (a := Vl.fz (.tup ([] ++ ys))) p s (.tup h2' r2)
      · subst e
        cases r2
        exact Pst.okv (a := Vl.fz (.tup (xs ++ []))) p s (.tup h1' (by rw [List.append_nil]; exact r1))
    | _ => cases he
  | _ => cases b <;> cases he
theorem ok_sub : OpOk g Wx (binD .sub) (rI0 fun i j => .int (i - j)) := by
  intro σ Φ H W ρ S x y a b v Q s hx hy he p
  cases a with
  | int i =>
    cases b with
    | int j =>
      cases he
      obtain rfl := hx.int
      obtain rfl := hy.int
      exact ⟨i, j, rfl, rfl, p.okv s (.int _)⟩
    | _ => cases he
  | _ => cases b <;> cases he
theorem rps_flat {w : Wr} {Φ : Hp} {vs : List V} {ds : List D} (r : Rps g w Φ vs ds) : ∀ n : Nat, Rps g w Φ (List.replicate n vs).flatten (List.replicate n ds).flatten
  | 0 => .nil
  | n + 1 => by
    rw [List.replicate_succ, List.replicate_succ, List.flatten_cons, List.flatten_cons]
    exact r.append (rps_flat r n)
def CMulA (i j : Int) : Prop := CMul i j ∨ CMulW i j
theorem CMulA.ok {i j : Int} (h : CMulA i j) : IntMulOk i j := h.elim CMul.ok CMulW.ok
theorem op_mulB : OpR X (binaryOp .Mult) (rI CMulA fun i j => .int (i * j)) := opI fun _ _ _ _ _ _ _ hc q => mul_int q hc.ok
theorem iop_mulB : OpR X (inplaceOp .Mult) (rI CMulA fun i j => .int (i * j)) := opI fun _ _ _ _ _ _ _ hc q => imul_int q hc.ok
def rMul (K : PySem.W.Frag) : R2 := fun x y H Q => rI CMulA (fun i j => .int (i * j)) x y H Q ∨ rRepF K x y H Q ∨ rRep x y H Q
theorem mul_okA {i j : Int} (hc : mulOk i j) : CMulA i j := by
  rcases hc with hc | hc
  · left
    unfold CMul
    rcases hc with hc | hc
    · left; omega
    · right; omega
  · exact .inr hc
theorem op_mulA : OpR X (binaryOp .Mult) (rMul X.K) := by
  intro pins s σ H x y v u Q I rx ry h
  rcases h with h | h | h
  · exact op_mulB pins s σ H x y v u Q I rx ry h
  · exact op_repF pins s σ H x y v u Q I rx ry h
  · exact op_rep pins s σ H x y v u Q I rx ry h
theorem ok_mul : OpOk g Wx (binD .mul) (rMul g.K) := by
  intro σ Φ H W ρ S x y a b v Q s hx hy he p
  cases a with
  | int i =>
    cases b with
    | int j =>
      obtain ⟨hc, rfl⟩ := ok?_some he
      obtain rfl := hx.int
      obtain rfl := hy.int
      exact .inl ⟨i, j, rfl, rfl, mul_okA (of_decide_eq_true hc), p.okv s (.int _)⟩
    | _ => cases he
  | tup xs =>
    cases b with
    | int k =>
      obtain ⟨hc, rfl⟩ := ok?_some he
      obtain ⟨q, vs, rfl, h1, h2, r1⟩ := hx.tup s.sub
      obtain rfl := hy.int
      obtain ⟨k0, k1, hz⟩ := of_decide_eq_true hc
      refine .inr (.inl ⟨q, k, vs, rfl, rfl, h1, k0, k1, by rw [r1.length]; exact hz, fun z => ?_, fun _ _ => new_tup s p (rps_flat r1 k.toNat)⟩)
      refine p.okv s ?_
      have e : (List.replicate k.toNat xs).flatten = xs := by
        rcases z with rfl | rfl
        · cases r1
          simp
        · show (List.replicate 1 xs).flatten = xs
          simp
      show Rp g W.w Φ (.ref q) (.tup (List.replicate k.toNat xs).flatten)
      rw [e]
      exact .tup h2 r1
    | _ => cases he
  | lst xs =>
    cases b with
    | int k =>
      obtain ⟨hc, rfl⟩ := ok?_some he
      obtain ⟨q, vs, rfl, h1, r1⟩ := hx.lst s.sub
      obtain rfl := hy.int
      obtain ⟨k0, k1, hz⟩ := of_decide_eq_true hc
      have hm : xs.length * k.toNat ≤ 1000 * 1000 := Nat.mul_le_mul hz (by omega)
      exact .inr (.inr ⟨q, k, vs, rfl, rfl, h1, by omega, by omega, by rw [r1.length, sizeLine_eq]; omega, fun a ha => new_ow s p (rps_flat r1 k.toNat) ha⟩)
    | _ => cases he
  | _ => cases b <;> cases he
theorem ok_mod : OpOk g Wx (binD .mod) (rI (fun _ j => 0 < j) fun i j => .int (i % j)) := by
  intro σ Φ H W ρ S x y a b v Q s hx hy he p
  cases a with
  | int i =>
    cases b with
    | int j =>
      obtain ⟨hc, rfl⟩ := ok?_some he
      obtain rfl := hx.int
      obtain rfl := hy.int
      exact ⟨i, j, rfl, rfl, of_decide_eq_true hc, p.okv s (.int _)⟩
    | _ => cases he
  | _ => cases b <;> cases he
theorem ok_fdiv : OpOk g Wx (binD .fdiv) (rI CDivW fun i j => .int (i / j)) := by
  intro σ Φ H W ρ S x y a b v Q s hx hy he p
  cases a with
  | int i =>
    cases b with
    | int j =>
      obtain ⟨hc, rfl⟩ := ok?_some he
      obtain rfl := hx.int
      obtain rfl := hy.int
      have h : divOk j := of_decide_eq_true hc
      exact ⟨i, j, rfl, rfl, h, p.okv s (.int _)⟩
    | _ => cases he
  | _ => cases b <;> cases he
theorem ok_pow : OpOk g Wx (binD .pow) (rI CPow fun i j => .int (i ^ j.toNat)) := by
  intro σ Φ H W ρ S x y a b v Q s hx hy he p
  cases a with
  | int i =>
    cases b with
    | int j =>
      obtain ⟨hc, rfl⟩ := ok?_some he
      obtain rfl := hx.int
      obtain rfl := hy.int
      have h : 0 ≤ j ∧ j ≤ 1000000 ∧ i.natAbs < 2 ^ 64 := of_decide_eq_true hc
      exact ⟨i, j, rfl, rfl, h, p.okv s (.int _)⟩
    | _ => cases he
  | _ => cases b <;> cases he
/-! ### comparisons -/
theorem eqD0_some {a b : D} {c : Bool} (h : eqD0 a b = some c) : a.plain = true ∧ b.plain = true ∧ SeqAt.shaped a.py = true ∧ SeqAt.shaped b.py = true ∧ c = PyData.eqv a.py b.py := by
  obtain ⟨h1, h2⟩ := ok?_some h
  simp only [Bool.and_eq_true] at h1
  exact ⟨h1.1.1.1, h1.1.1.2, h1.1.2, h1.2, h2.symm⟩
theorem eqD_some {a b : D} {c : Bool} (h : eqD a b = some c) : (∃ x y, a = .str x ∧ b = .str y ∧ c = (x == y)) ∨ (a.plain = true ∧ b.plain = true ∧ SeqAt.shaped a.py = true ∧ SeqAt.shaped b.py = true ∧ c = PyData.eqv a.py b.py) := by
  unfold eqD at h
  split at h
  · cases h; exact .inl ⟨_, _, rfl, rfl, rfl⟩
  · exact .inr (eqD0_some h)
theorem OpR.or {X : Cx} {f : Value → Value → Sem Value} {r r' : R2} (h : OpR X f r) (h' : OpR X f r') : OpR X f (fun x y H Q => r x y H Q ∨ r' x y H Q) := by
  intro pins s σ H x y v u Q I rx ry q
  rcases q with q | q
  · exact h pins s σ H x y v u Q I rx ry q
  · exact h' pins s σ H x y v u Q I rx ry q
/-- a tuple beside the empty one -/
def rEqT0 (K : PySem.W.Frag) : R2 := fun x y H Q => ∃ a b xs, x = .ref a ∧ y = .ref b ∧ SqT K H a xs ∧ SqT K H b [] ∧ Q (.bl xs.isEmpty) H
theorem op_eqT0 (hu : X.A.units < cLine) : OpR X (compareOp .Eq) (rEqT0 X.K) := by
  intro pins s σ H x y v u Q I rx ry h
  obtain ⟨a, b, xs, rfl, rfl, ha, hb, q⟩ := h
  obtain rfl : v = Value.ref a := rx
  obtain rfl : u = Value.ref b := ry
  obtain ⟨i1, r1, t1, _⟩ := I.tuple ha
  obtain ⟨i2, r2, t2, _⟩ := I.tuple hb
  have e2 : i2 = [] := List.length_eq_zero_iff.mp (by rw [← r2.length]; rfl)
  subst e2
  refine SeqAt.eq_tupleAt (e := fun _ => true) t1 t2 hu (fun j h1 h2 => absurd h2 (Nat.not_lt_zero _)) (fin_bl I q ?_)
  have hl := r1.length
  cases i1 with
  | nil =>
    cases xs with
    | nil => rfl
    | cons _ _ => cases hl
  | cons _ _ =>
    cases xs with
    | nil => cases hl
    | cons _ _ => simp
theorem eqT_some {a b : D} {c : Bool} (h : eqT a b = some c) : (∃ xs, a = .tup xs ∧ b = .tup [] ∧ c = xs.isEmpty) ∨ eqD a b = some c := by
  unfold eqT at h
  split at h
  · cases h; exact .inl ⟨_, rfl, rfl, rfl⟩
  · exact .inr h
theorem rps_emp {w : Wr} {Φ : Hp} : ∀ {vs : List V} {ds : List D}, Rps g w Φ vs ds → vs.isEmpty = ds.isEmpty
  | _, _, .nil => rfl
  | _, _, .cons _ _ => rfl
theorem ok_eq : CmOk g (cmpD .eq) (fun x y H Q => (rEqD g.K x y H Q ∨ rEq x y H Q) ∨ rEqT0 g.K x y H Q) := by
  intro Φ H w x y a b c Q sub hx hy he q
  rcases eqT_some he with ⟨xs, rfl, rfl, rfl⟩ | he
  · obtain ⟨p, vs, rfl, h1, _, r1⟩ := hx.tup sub
    obtain ⟨p2, vs2, rfl, h2, _, r2⟩ := hy.tup sub
    obtain rfl : vs2 = [] := by cases r2; rfl
    exact .inr ⟨p, p2, vs, rfl, rfl, h1, h2, by rw [rps_emp r1]; exact q⟩
  rcases eqD_some he with ⟨s, t, rfl, rfl, rfl⟩ | ⟨h1, h2, h3, h4, rfl⟩
  · obtain rfl := hx.str
    obtain rfl := hy.str
    exact .inl (.inr ⟨rfl, by rw [dec_str]; exact q⟩)
  · exact .inl (.inl ⟨_, _, hx.dp sub h1 (SeqAt.canLay_of_shaped h3), hy.dp sub h2 (SeqAt.canLay_of_shaped h4), h3, h4, q⟩)
theorem ok_ne : CmOk g (cmpD .ne) (fun x y H Q => rNeD g.K x y H Q ∨ rNe x y H Q) := by
  intro Φ H w x y a b c Q sub hx hy he q
  have he : (eqD a b).map (!·) = some c := he
  cases e : eqD a b with
  | none => rw [e] at he; cases he
  | some d =>
    rw [e] at he
    cases he
    rcases eqD_some e with ⟨s, t, rfl, rfl, rfl⟩ | ⟨h1, h2, h3, h4, rfl⟩
    · obtain rfl := hx.str
      obtain rfl := hy.str
      exact .inr ⟨rfl, by rw [dec_str]; exact q⟩
    · exact .inl ⟨_, _, hx.dp sub h1 (SeqAt.canLay_of_shaped h3), hy.dp sub h2 (SeqAt.canLay_of_shaped h4), h3, h4, q⟩
theorem ok_int {op : Cop} {p : Int → Int → Bool} (h : ∀ a b c, cmpD op a b = some c → ∃ i j, a = .int i ∧ b = .int j ∧ c = p i j) : CmOk g (cmpD op) (rI0 fun i j => .bl (p i j)) := by
  intro Φ H w x y a b c Q sub hx hy he q
  obtain ⟨i, j, rfl, rfl, rfl⟩ := h a b c he
  obtain rfl := hx.int
  obtain rfl := hy.int
  exact ⟨i, j, rfl, rfl, q⟩
/-- x < y of alike data -/
def rLtD (K : PySem.W.Frag) : R2 := fun x y H Q => ∃ d e, Dp K H x d ∧ Dp K H y e ∧ PySem.W.alike d e = true ∧ d ≠ .none ∧ SeqAt.shaped d = true ∧ Q (.bl (PySem.W.dataLt d e)) H
theorem op_ltD (hu : X.A.units + 65 < cLine) : OpR X (compareOp .Lt) (rLtD X.K) := by
  intro pins s σ H x y v u Q I rx ry h
  obtain ⟨d, e, hd, he, ha, hn, sd, q⟩ := h
  obtain ⟨as, r1⟩ := Dp.reads I d x v hd rx
  obtain ⟨bs, r2⟩ := Dp.reads I e y u he ry
  refine PySem.W.lt_data r1 r2 ha hn ?_ ⟨.bl _, H, I, rfl, q⟩
  have h1 := SeqAt.depth_of_shaped sd
  have h2 : min d.depth e.depth ≤ d.depth := Nat.min_le_left _ _
  omega
theorem ltD_some {x y : D} {c : Bool} (h : ltD x y = some c) : seqD x = true ∧ x.plain = true ∧ y.plain = true ∧ SeqAt.shaped x.py = true ∧ SeqAt.shaped y.py = true ∧ PySem.W.alike x.py y.py = true ∧ c = PySem.W.dataLt x.py y.py := by
  obtain ⟨h1, h2⟩ := ok?_some h
  simp only [Bool.and_eq_true] at h1
  exact ⟨h1.1.1.1.1.1, h1.1.1.1.1.2, h1.1.1.1.2, h1.1.1.2, h1.1.2, h1.2, h2.symm⟩
theorem ok_lt : CmOk g (cmpD .lt) (fun x y H Q => rLtD g.K x y H Q ∨ rI0 (fun i j => .bl (decide (i < j))) x y H Q) := by
  intro Φ H w x y a b c Q sub hx hy he q
  have go : ∀ {a b : D}, ltD a b = some c → Nw g w Φ H x a → Nw g w Φ H y b → rLtD g.K x y H Q := fun {a b} h hx hy => by
    obtain ⟨h0, h1, h2, h3, h4, h5, rfl⟩ := ltD_some h
    refine ⟨_, _, hx.dp sub h1 (SeqAt.canLay_of_shaped h3), hy.dp sub h2 (SeqAt.canLay_of_shaped h4), h5, ?_, h3, q⟩
    intro z
    cases a with
    | lst xs => rw [D.py] at z; cases z
    | tup xs => rw [D.py] at z; cases z
    | _ => cases h0
  cases a with
  | int i =>
    cases b with
    | int j =>
      cases he
      obtain rfl := hx.int
      obtain rfl := hy.int
      exact .inr ⟨i, j, rfl, rfl, q⟩
    | _ => exact .inl (go he hx hy)
  | _ => exact .inl (go (by cases b <;> exact he) hx hy)
theorem ok_le : CmOk g (cmpD .le) (rI0 fun i j => .bl (decide (i ≤ j))) := ok_int (p := fun i j => decide (i ≤ j)) fun a b c h => by
  cases a with
  | int i =>
    cases b with
    | int j => cases h; exact ⟨i, j, rfl, rfl, rfl⟩
    | _ => cases h
  | _ => cases b <;> cases h
theorem ok_gt : CmOk g (cmpD .gt) (rI0 fun i j => .bl (decide (j < i))) := ok_int (p := fun i j => decide (j < i)) fun a b c h => by
  cases a with
  | int i =>
    cases b with
    | int j => cases h; exact ⟨i, j, rfl, rfl, rfl⟩
    | _ => cases h
  | _ => cases b <;> cases h
theorem ok_ge : CmOk g (cmpD .ge) (rI0 fun i j => .bl (decide (j ≤ i))) := ok_int (p := fun i j => decide (j ≤ i)) fun a b c h => by
  cases a with
  | int i =>
    cases b with
    | int j => cases h; exact ⟨i, j, rfl, rfl, rfl⟩
    | _ => cases h
  | _ => cases b <;> cases h
theorem ok_is : CmOk g (cmpD .is) (fun x y H Q => y = .non ∧ Q (.bl (decide (x = .non))) H) := by
  intro Φ H w x y a b c Q sub hx hy he q
  cases b with
  | non =>
    have he : some a.isNon = some c := by cases a <;> exact he
    cases he
    obtain rfl := hy.non
    exact ⟨rfl, by rw [hx.isN]; exact q⟩
  | _ => cases a <;> cases he
theorem ok_isn : CmOk g (cmpD .isn) (fun x y H Q => y = .non ∧ Q (.bl (!decide (x = .non))) H) := by
  intro Φ H w x y a b c Q sub hx hy he q
  cases b with
  | non =>
    have he : some (!a.isNon) = some c := by cases a <;> exact he
    cases he
    obtain rfl := hy.non
    exact ⟨rfl, by rw [hx.isN]; exact q⟩
  | _ => cases a <;> cases he
theorem pys_any {x : PyData} : ∀ ys : List D, (D.pys ys).any (fun z => PyData.eqv z x) = ys.any fun y => PyData.eqv y.py x
  | [] => rfl
  | y :: ys => by rw [D.pys, List.any_cons, List.any_cons, pys_any ys]
theorem inD_some {x : D} {ys : List D} {c : Bool} (h : inD x ys = some c) : x.plain = true ∧ D.plains ys = true ∧ SeqAt.shaped x.py = true ∧ SeqAt.shaped (.list (D.pys ys)) = true ∧ c = ys.any fun y => PyData.eqv y.py x.py := by
  obtain ⟨h1, h2⟩ := ok?_some h
  simp only [Bool.and_eq_true] at h1
  exact ⟨h1.1.1.1, h1.1.1.2, h1.1.2, h1.2, h2.symm⟩
/-- x in a tuple -/
def rInDT (K : PySem.W.Frag) : R2 := fun x y H Q => ∃ d ds, Dp K H x d ∧ Dp K H y (.tuple ds) ∧ SeqAt.shaped d = true ∧ SeqAt.shaped (.list ds) = true ∧ Q (.bl (ds.any fun z => PyData.eqv z d)) H
def rNotInDT (K : PySem.W.Frag) : R2 := fun x y H Q => ∃ d ds, Dp K H x d ∧ Dp K H y (.tuple ds) ∧ SeqAt.shaped d = true ∧ SeqAt.shaped (.list ds) = true ∧ Q (.bl (!ds.any fun z => PyData.eqv z d)) H
theorem op_inDT (hu : X.A.units + 65 < cLine) : OpR X (compareOp .In) (rInDT X.K) := by
  intro pins s σ H x y v u Q I rx ry h
  obtain ⟨d, ds, hd, he, sd, se, q⟩ := h
  obtain ⟨as, r1⟩ := Dp.reads I d x v hd rx
  obtain ⟨bs, r2⟩ := Dp.reads I (.tuple ds) y u he ry
  exact SeqAt.in_tuple_reads r2 r1 (SeqAt.canLay_of_shaped se) (SeqAt.canLay_of_shaped sd) (room_in_shaped sd hu) ⟨.bl _, H, I, rfl, q⟩
theorem op_notInDT (hu : X.A.units + 65 < cLine) : OpR X (compareOp .NotIn) (rNotInDT X.K) := by
  intro pins s σ H x y v u Q I rx ry h
  obtain ⟨d, ds, hd, he, sd, se, q⟩ := h
  obtain ⟨as, r1⟩ := Dp.reads I d x v hd rx
  obtain ⟨bs, r2⟩ := Dp.reads I (.tuple ds) y u he ry
  exact SeqAt.notIn_tuple_reads r2 r1 (SeqAt.canLay_of_shaped se) (SeqAt.canLay_of_shaped sd) (room_in_shaped sd hu) ⟨.bl _, H, I, rfl, q⟩
theorem shaped_lt {ds : List PyData} (h : SeqAt.shaped (.list ds) = true) : PyData.canLay0 (.tuple ds) = true := by
  have := SeqAt.canLay_of_shaped h
  simpa [PyData.canLay0] using this
theorem ok_in : CmOk g (cmpD .inn) (fun x y H Q => rInD g.K x y H Q ∨ rInDT g.K x y H Q) := by
  intro Φ H w x y a b c Q sub hx hy he q
  cases b with
  | lst ys =>
    have he : inD a ys = some c := by cases a <;> exact he
    obtain ⟨h1, h2, h3, h4, rfl⟩ := inD_some he
    have e : D.py (.lst ys) = .list (D.pys ys) := by rw [D.py]
    have hy' := hy.dp sub (by rw [D.plain]; exact h2) (by rw [e]; exact SeqAt.canLay_of_shaped h4)
    rw [e] at hy'
    exact .inl ⟨_, _, hx.dp sub h1 (SeqAt.canLay_of_shaped h3), hy', h3, h4, by rw [pys_any]; exact q⟩
  | tup ys =>
    have he : inD a ys = some c := by cases a <;> exact he
    obtain ⟨h1, h2, h3, h4, rfl⟩ := inD_some he
    have e : D.py (.tup ys) = .tuple (D.pys ys) := by rw [D.py]
    have hy' := hy.dp sub (by rw [D.plain]; exact h2) (by rw [e]; exact shaped_lt h4)
    rw [e] at hy'
    exact .inr ⟨_, _, hx.dp sub h1 (SeqAt.canLay_of_shaped h3), hy', h3, h4, by rw [pys_any]; exact q⟩
  | _ => cases a <;> cases he
theorem ok_nin : CmOk g (cmpD .nin) (fun x y H Q => rNotInD g.K x y H Q ∨ rNotInDT g.K x y H Q) := by
  intro Φ H w x y a b c Q sub hx hy he q
  cases b with
  | lst ys =>
    have he : (inD a ys).map (!·) = some c := by cases a <;> exact he
    cases e1 : inD a ys with
    | none => rw [e1] at he; cases he
    | some d =>
      rw [e1] at he
      cases he
      obtain ⟨h1, h2, h3, h4, rfl⟩ := inD_some e1
      have e : D.py (.lst ys) = .list (D.pys ys) := by rw [D.py]
      have hy' := hy.dp sub (by rw [D.plain]; exact h2) (by rw [e]; exact SeqAt.canLay_of_shaped h4)
      rw [e] at hy'
      exact .inl ⟨_, _, hx.dp sub h1 (SeqAt.canLay_of_shaped h3), hy', h3, h4, by rw [pys_any]; exact q⟩
  | tup ys =>
    have he : (inD a ys).map (!·) = some c := by cases a <;> exact he
    cases e1 : inD a ys with
    | none => rw [e1] at he; cases he
    | some d =>
      rw [e1] at he
      cases he
      obtain ⟨h1, h2, h3, h4, rfl⟩ := inD_some e1
      have e : D.py (.tup ys) = .tuple (D.pys ys) := by rw [D.py]
      have hy' := hy.dp sub (by rw [D.plain]; exact h2) (by rw [e]; exact shaped_lt h4)
      rw [e] at hy'
      exact .inr ⟨_, _, hx.dp sub h1 (SeqAt.canLay_of_shaped h3), hy', h3, h4, by rw [pys_any]; exact q⟩
  | _ => cases a <;> cases he
/-! ### a[i] -/
theorem Rps.atI {w : Wr} {Φ : Hp} {vs : List V} {ds : List D} {i : Int} {d : D} (r : Rps g w Φ vs ds) (h : L2.atI ds i = some d) : ∃ v, L2.atI vs i = some v ∧ Rp g w Φ v d := by
  unfold L2.atI at h ⊢
  rw [r.length]
  cases e : L2.ixN ds.length i with
  | none => rw [e] at h; cases h
  | some j =>
    rw [e] at h
    exact r.get h
theorem ok_ix : OpOk g Wx ixD (rIx g.K) := by
  intro σ Φ H W ρ S x y a b v Q s hx hy he p
  cases a with
  | lst xs =>
    cases b with
    | int i =>
      obtain rfl := hy.int
      have he : (L2.atI xs i).map Vl.fz = some v := he
      cases e : L2.atI xs i with
      | none => rw [e] at he; cases he
      | some d =>
        rw [e] at he
        cases he
        obtain ⟨q, vs, rfl, h1, r1⟩ := hx.lst s.sub
        obtain ⟨u, e2, r⟩ := Rps.atI r1 e
        exact .inl ⟨q, vs, i, u, rfl, rfl, SqL.of h1, e2, p.okv s r⟩
    | _ => cases he
  | tup xs =>
    cases b with
    | int i =>
      obtain rfl := hy.int
      have he : (L2.atI xs i).map Vl.fz = some v := he
      cases e : L2.atI xs i with
      | none => rw [e] at he; cases he
      | some d =>
        rw [e] at he
        cases he
        obtain ⟨q, vs, rfl, h1, _, r1⟩ := hx.tup s.sub
        obtain ⟨u, e2, r⟩ := Rps.atI r1 e
        exact .inr (.inl ⟨q, vs, i, u, rfl, rfl, h1, e2, p.okv s r⟩)
    | _ => cases he
  | _ => cases b <;> cases he
/-! ### a[lo:hi] -/
theorem Rps.cut {w : Wr} {Φ : Hp} {vs : List V} {ds : List D} (r : Rps g w Φ vs ds) (lo hi : Option Int) : Rps g w Φ (cutV vs lo hi) (cut ds lo hi) := by
  unfold cutV VI.cut
  rw [r.length]
  exact (r.drop _).take _
def rSlF (K : PySem.W.Frag) : V → Option Int → Option Int → Hp → VK → Prop := fun x lo hi H Q => ∃ a xs, x = .ref a ∧ SqT K H a xs ∧
  (HT.sIx xs.length 0 lo = 0 ∧ HT.sIx xs.length xs.length hi = xs.length → Q (.ref a) H) ∧ (¬ (HT.sIx xs.length 0 lo = 0 ∧ HT.sIx xs.length xs.length hi = xs.length) → NewT (cutV xs lo hi) H Q)
theorem sl_tupF : SlR X (rSlF X.K) := by
  intro pins s σ H x v vl vu lo hi sl Q I rx hs pl pu h
  obtain ⟨a, xs, rfl, hx, q1, q2⟩ := h
  obtain rfl : v = Value.ref a := rx
  obtain ⟨its, r, ht, hz⟩ := I.tuple hx
  have hl : its.toArray.size = xs.length := by rw [List.size_toArray, r.length]
  refine ⟨"tuple", _, PyProof.Rows.slot_tuple_getitem.lookup, ht.typeIs, ?_⟩
  by_cases hw : HT.sIx xs.length 0 lo = 0 ∧ HT.sIx xs.length xs.length hi = xs.length
  · exact getItem_tuple_whole ht hs pl pu (by rw [hl]; exact hw) ⟨.ref a, H, I, rfl, q1 hw⟩
  · refine HT.getItem_tuple_cut ht hs pl pu (by rw [hl]; exact hw) ?_ (by rw [hl]; exact hz)
    rw [hl]
    exact newT_laid I ((r.drop (HT.sIx xs.length 0 lo)).take (HT.sIx xs.length xs.length hi - HT.sIx xs.length 0 lo)) (Nat.le_trans (cutV_length xs lo hi) hz) (q2 hw) s.toks
def rSlS (K : PySem.W.Frag) : V → Option Int → Option Int → Hp → VK → Prop := fun x lo hi H Q => rSlL K x lo hi H Q ∨ rSlF K x lo hi H Q
theorem sl_seq : SlR X (rSlS X.K) := sl_list.or sl_tupF
theorem ok_sl {σ : L2.St} {Φ H : Hp} {W : Wd} {ρ : Rho} {S : So} {x : V} {a : D} {lo hi : Option Int} {v : Vl} {Q : VK} (s : Stt g Φ H W ρ S σ) (hx : Nw g W.w Φ H x a) (he : slD a lo hi = some v)
    (p : Pst g Wx σ (Own ρ σ) Φ H W (RV g σ) (.ok v ρ S) Q) : rSlS g.K x lo hi H Q := by
  cases a with
  | lst xs =>
    cases he
    obtain ⟨q, vs, rfl, h1, r1⟩ := hx.lst s.sub
    exact .inl ⟨q, vs, rfl, SqL.of h1, fun a ha => new_ow s p (r1.cut lo hi) ha⟩
  | tup xs =>
    cases he
    obtain ⟨q, vs, rfl, h1, h1', r1⟩ := hx.tup s.sub
    refine .inr ⟨q, vs, rfl, h1, fun hw => ?_, fun _ => new_tup s p (r1.cut lo hi)⟩
    have e : cut xs lo hi = xs := by
      unfold VI.cut
      rw [r1.length] at hw
      rw [hw.1, hw.2, List.drop_zero, Nat.sub_zero, List.take_length]
    exact Pst.okv (a := Vl.fz (.tup (cut xs lo hi))) p s (by rw [e]; exact .tup h1' r1)
  | _ => cases he
/-- a part of a slice: left out, or an expression -/
def tOp_ (g : Gl0) (Wx : WX) (C : Cal) (m : E) : TO := tR g Wx (fun _ _ b a _ _ _ _ => b = a) fun ρ S => part m ρ S (ev C m ρ S)
def RI : Rl (Option Int) (Option Int) := fun _ b a _ _ _ _ => b = a
theorem early_RI : Early RI := fun _ _ _ _ _ _ _ _ _ q => q
theorem PO.weak {X : Cx} {e : Option Expr} {t t' : TO} (h : PO X e t) (w : ∀ σ H Q, t' σ H Q → t σ H Q) : PO X e t' := ⟨fun pins s σ H Q I q => h.run pins s σ H Q I (w σ H Q q)⟩
theorem po_non : PO X none (tOp_ g Wx C .non) := PO.weak po_none fun σ H Q ⟨Φ, W, ρ, S, s, p⟩ => Pst.okv (a := none) p s rfl
theorem po_e {e : Expr} {m : E} (h : PE X e (tE g Wx C m)) (hn : m ≠ .non) : PO X (some e) (tOp_ g Wx C m) := PO.weak (po_some h) fun σ H Q ⟨Φ, W, ρ, S, s, p⟩ => by
  refine ⟨Φ, W, ρ, S, s, ?_⟩
  have e2 : part m ρ S (ev C m ρ S) = (ev C m ρ S).bind fun v ρ S => match v with
    | .fz (.int i) => .ok (some i) ρ S
    | _ => .no := by
    cases m <;> first | rfl | exact absurd rfl hn
  have p : Pst g Wx σ (Own ρ σ) Φ H W RI (part m ρ S (ev C m ρ S)) Q := p
  rw [e2] at p
  refine Pst.bindF early_RI p fun v ρ1 S1 x Φ1 H1 W1 l s1 r p1 => ?_
  cases v with
  | ow xs => exact p1.elim
  | fz d =>
    cases d with
    | int i =>
      cases r
      exact ⟨i, rfl, Pst.okv (a := some i) p1 s1 rfl⟩
    | _ => exact p1.elim
theorem getItem_tuple_rev {prog : Program} {w : World} {A : Around} {E : Value → Shared → Prop} {s : Shared} {t sl : Addr} {items : Array Value} {vl vu vs : Value} {Q : Value → Shared → Prop} (ht : IsTup s.heap t items) (hs : s.heap.IsSliceOf sl vl vu vs) (pl : IsPart vl none) (pu : IsPart vu none) (ps : IsPart vs (some (-1)))
    (h : Q (.ref s.heap.objs.size) { s with heap := s.heap.push { cls := .type "tuple", data := .seq items.toList.reverse.toArray } }) (hsz : items.size ≤ sizeLine) : wpAny (model prog w) A (getItem (.ref t) (.ref sl)) Q E s := by
  have htake : sizeOk (.seq items.toList.reverse.toArray) := by
    show items.toList.reverse.toArray.size ≤ sizeLine
    simpa using hsz
  obtain ⟨os, hos, hcs, hds⟩ := id hs
  have hTs : s.TypeIs (.ref sl) "slice" := ⟨os, hos, hcs⟩
  cases pl; cases pu; cases ps
  unfold getItem
  try with_reducible refine wpAny_holding ?_
  first | refine wpAny_bind (wpAny_pure ?_) | skip
  refine wpAny_bind (wpAny_sequenceKey ht.typeIs (by decide) ?_)
  refine wpAny_bind (wpAny_callSpecial?_slot (name := Str.ofString "__getitem__") ht.typeIs PyProof.Rows.slot_tuple_getitem
    (wpAny_call_entry PyProof.Rows.slot_tuple_getitem ht.typeIs entry_tuple_getitem ?_ (args_tuple_getitem _ _)))
  show wpAny _ _ (Builtin.Tuple.tupleItemsOf (.ref t) >>= _) _ _ s
  refine wpAny_bind (tupleItemsOf_ ht ?_)
  refine wpAny_bind (wpAny_typeOf hTs ?_)
  rw [if_pos (by decide)]
  have hap : ∀ {Q : Int × Int × Nat → Shared → Prop}, Q ((items.size : Int) - 1, -1, items.size) s → wpAny (model prog w) A.in1 (Builtin.Slice.sliceApplied (.ref sl) (pure (items.size : Int))) Q (fun e s' => E e s') s := by
    intro Q h
    unfold Builtin.Slice.sliceApplied Builtin.Slice.sliceFields
    refine wpAny_bind (wpAny_bind (wpAny_field hos hds (x := .none) rfl (wpAny_bind (wpAny_field hos hds (x := .none) rfl (wpAny_bind (wpAny_field hos hds (x := .int (-1) _) rfl (wpAny_pure ?_)))))))
    refine wpAny_bind (slicePart_int ?_)
    show wpAny _ _ (if ((-1 : Int) == 0) = true then _ else _) _ _ s
    rw [if_neg (by decide)]
    refine wpAny_bind (slicePart_none (wpAny_bind (slicePart_none (wpAny_bind (wpAny_pure ?_)))))
    have e : Builtin.Slice.sliceAdjust none none (-1) (items.size : Int) = ((items.size : Int) - 1, -1) := by
      unfold Builtin.Slice.sliceAdjust
      simp
    have e2 : Builtin.Slice.slicePlaces ((items.size : Int) - 1) (-1) (-1) = items.size := by
      unfold Builtin.Slice.slicePlaces
      simp
      omega
    show wpAny _ _ (match Builtin.Slice.sliceAdjust none none (-1) (items.size : Int) with | (lo, hi) => pure (lo, (-1 : Int), Builtin.Slice.slicePlaces lo hi (-1))) _ _ s
    rw [e]
    show wpAny _ _ (pure ((items.size : Int) - 1, (-1 : Int), Builtin.Slice.slicePlaces ((items.size : Int) - 1) (-1) (-1))) _ _ s
    rw [e2]
    exact wpAny_pure h
  refine wpAny_bind (hap ?_)
  show wpAny _ _ (if (((items.size : Int) - 1) == 0 && (-1 : Int) == 1 && items.size == items.size) = true then _ else _) _ _ s
  rw [if_neg (by simp)]
  have epick : (((List.range items.size).filterMap fun (m : Nat) => items[(((items.size : Int) - 1) + (m : Int) * (-1)).toNat]?).toArray) = items.toList.reverse.toArray := by
    congr 1
    have e1 : ∀ m ∈ List.range items.size, items[(((items.size : Int) - 1) + (m : Int) * (-1)).toNat]? = items.toList.reverse[m]? := by
      intro m hm
      have hm := List.mem_range.mp hm
      rw [List.getElem?_reverse (by simpa using hm), Array.getElem?_toList]
      congr 1
      simp
      omega
    have e2 : ((List.range items.size).filterMap fun (m : Nat) => items[(((items.size : Int) - 1) + (m : Int) * (-1)).toNat]?) = (List.range items.size).filterMap fun m => items.toList.reverse[m]? := by
      generalize List.range items.size = l at e1
      induction l with
      | nil => rfl
      | cons a l ih =>
        rw [List.filterMap_cons, List.filterMap_cons, e1 a List.mem_cons_self, ih fun m hm => e1 m (List.mem_cons_of_mem _ hm)]
    rw [e2]
    have := PySem.W.krv_all items.toList.reverse.toArray
    simpa using this
  rw [epick]
  first
    | exact wpAny_bind (m := Builtin.Tuple.tupleExact _) (wpAny_newObj_type (wpAny_pure ⟨_, rfl, wpAny_pure h⟩) htake)
    | exact wpAny_bind (m := Builtin.Tuple.tupleExact _) (wpAny_newObj_type (wpAny_bind (wpAny_pure (wpAny_pure ⟨_, rfl, wpAny_pure h⟩))) htake)
    | exact wpAny_bind (wpAny_bind (m := Builtin.Tuple.tupleExact _) (wpAny_newObj_type (wpAny_pure (wpAny_pure ⟨_, rfl, wpAny_pure h⟩)) htake))
    | exact wpAny_bind (wpAny_bind (m := Builtin.Tuple.tupleExact _) (wpAny_newObj_type (wpAny_pure ⟨_, rfl, wpAny_pure h⟩) htake))
end
end VI
set_option Elab.async false
set_option linter.all false
set_option maxRecDepth 100000
set_option maxHeartbeats 4000000
/-! VIG: sorted of data of one shape, of at most one thing; max and min of ints. -/
namespace VI
open PySem PySem.Spec PyProof.Rows L2 SrtO
def rSortedG (K : PySem.W.Frag) : List V → Hp → VK → Prop := fun vs H Q => ∃ (a : Addr) (xs : List V) (ds : List PyData), vs = [V.ref a] ∧ SqL K H a xs ∧ xs.length = ds.length ∧ (∀ q ∈ xs.zip ds, Dp K H q.1 q.2) ∧ PySem.W.AllAlike ds ∧ PySem.W.Sortable ds ∧ (∀ d ∈ ds, d.depth ≤ 60) ∧
  ∀ p : Addr, H p = none → Q (.ref p) (upd H p (.lst (((xs.zip ds).mergeSort fun a b => !PySem.W.dataLt b.2 a.2).map (·.1))))
def rSortedS (K : PySem.W.Frag) : List V → Hp → VK → Prop := fun vs H Q => ∃ (a : Addr) (xs : List V), vs = [V.ref a] ∧ SqL K H a xs ∧ xs.length ≤ 1 ∧ ∀ p : Addr, H p = none → Q (.ref p) (upd H p (.lst xs))
section
variable {X : Cx}
theorem each_zip {R : Value → V × PyData → Prop} : ∀ {xs : List V} {ds : List PyData} {its : List Value}, Vals xs its → xs.length = ds.length → (∀ v u d, (v, d) ∈ xs.zip ds → RelV v u → R u (v, d)) → PySem.W.EachIs R its (xs.zip ds)
  | _, [], _, .nil, _, _ => .nil
  | _, d :: ds, _, .cons r rs, hl, h => by
    rw [List.zip_cons_cons]
    exact .cons (h _ _ _ (by rw [List.zip_cons_cons]; exact List.mem_cons_self) r) (each_zip rs (by simpa using hl) fun v u d hm => h v u d (by rw [List.zip_cons_cons]; exact List.mem_cons_of_mem _ hm))
theorem vals_each : ∀ {its : List Value} {qs : List (V × PyData)}, PySem.W.EachIs (fun (u : Value) (q : V × PyData) => RelV q.1 u) its qs → Vals (qs.map (·.1)) its
  | _, _, .nil => .nil
  | _, _, .cons r rs => .cons r (vals_each rs)
theorem cr_sortedG (hu : X.A.units + 65 < cLine) : CallR X (.builtin "sorted") (rSortedG X.K) := by
  intro pins s σ H vs us Q I r h
  obtain ⟨a, xs, ds, rfl, hs, hl, hd, hal, hk, hdp, q⟩ := h
  obtain ⟨its, rv, hi, hz⟩ := I.list hs
  obtain ⟨u, rfl, ru⟩ := vals1 r
  obtain rfl : u = Value.ref a := ru
  have em : (xs.zip ds).map (fun q => q.2) = ds := List.map_snd_zip (Nat.le_of_eq hl.symm)
  have el : (xs.zip ds).length = xs.length := by rw [List.length_zip, hl, Nat.min_self]
  refine PySem.W.sorted_data (R := fun (u : Value) (q : V × PyData) => RelV q.1 u) (enc := fun q : V × PyData => q.2) (bs := xs.zip ds) hi.isList (each_zip rv hl fun v u d _ r => r) (each_zip rv hl fun v u d hm r => Dp.reads I d v u (hd _ hm) r) (by rw [em]; exact hal) (by rw [em]; exact hk) (by rw [el]; exact hz) (fun b hb => ?_) fun out ho he => ?_
  · have h1 := hdp b.2 (List.of_mem_zip (show (b.1, b.2) ∈ xs.zip ds from hb)).2
    omega
  · have hlen : (((xs.zip ds).mergeSort fun a b => !PySem.W.dataLt b.2 a.2).map (·.1)).length ≤ sizeLine := by
      rw [List.length_map, List.length_mergeSort, el]; exact hz
    obtain ⟨n, hn⟩ := sortedAll_at s.heap its out.toArray
    refine ⟨.ref (s.heap.objs.size + 1), upd H (s.heap.objs.size + 1) (.lst _), I.laid (t' := s.toks) (fun b o e => sortedAll_old e) (Nat.le_succ _) ⟨hlen, out, n, vals_each he, hn⟩, rfl, q _ (I.hok.fresh (Nat.le_succ _))⟩
theorem swo_no : Swo fun (_ _ : Value) => false := ⟨fun _ _ h => (nomatch h), fun _ _ _ _ _ => rfl⟩
theorem perm_short {α : Type} {l m : List α} (h : l.length ≤ 1) (p : m.Perm l) : m = l := by
  match l, h with
  | [], _ => exact p.eq_nil
  | [x], _ => exact p.eq_singleton
theorem cr_sortedS : CallR X (.builtin "sorted") (rSortedS X.K) := by
  intro pins s σ H vs us Q I r h
  obtain ⟨a, xs, rfl, hs, hl, q⟩ := h
  obtain ⟨its, rv, hi, hz⟩ := I.list hs
  obtain ⟨u, rfl, ru⟩ := vals1 r
  obtain rfl : u = Value.ref a := ru
  have hl2 : its.length ≤ 1 := by rw [← rv.length]; exact hl
  refine sorted_ord swo_no hi.isList (by rw [← rv.length]; exact hz) (fun h2 => absurd h2 (by omega)) fun out hs hb => ?_
  have eo : out = its := perm_short hl2 hb.perm
  subst eo
  obtain ⟨n, hn⟩ := sortedAll_at s.heap out out.toArray
  exact ⟨.ref (s.heap.objs.size + 1), upd H (s.heap.objs.size + 1) (.lst xs), I.laid (t' := s.toks) (fun b o e => sortedAll_old e) (Nat.le_succ _) ⟨hz, out, n, rv, hn⟩, rfl, q _ (I.hok.fresh (Nat.le_succ _))⟩
def rSortedV (K : PySem.W.Frag) : List V → Hp → VK → Prop := fun vs H Q => rSortedU K vs H Q ∨ (rSortedG K vs H Q ∨ rSortedS K vs H Q)
theorem cr_sortedV (hu : X.A.units + 65 < cLine) : CallR X (.builtin "sorted") (rSortedV X.K) := by
  intro pins s σ H vs us Q I r h
  rcases h with h | h | h
  · exact cr_sortedU pins s σ H vs us Q I r h
  · exact cr_sortedG hu pins s σ H vs us Q I r h
  · exact cr_sortedS pins s σ H vs us Q I r h
end
theorem maxI_mem : ∀ (is : List Int) (i : Int), maxI i is ∈ i :: is ∧ ∀ y ∈ i :: is, y ≤ maxI i is
  | [], i => ⟨List.mem_cons_self, fun y h => by rw [List.mem_singleton.mp h]; exact Int.le_refl _⟩
  | j :: is, i => by
    have h := maxI_mem is (max i j)
    have e : maxI i (j :: is) = maxI (max i j) is := rfl
    rw [e]
    refine ⟨?_, fun y hy => ?_⟩
    · rcases List.mem_cons.mp h.1 with z | z
      · rw [z]
        rcases Int.le_total i j with q | q
        · rw [Int.max_eq_right q]; simp
        · rw [Int.max_eq_left q]; simp
      · exact List.mem_cons_of_mem _ (List.mem_cons_of_mem _ z)
    · have hm := h.2 _ List.mem_cons_self
      rcases List.mem_cons.mp hy with rfl | hy
      · omega
      · rcases List.mem_cons.mp hy with rfl | hy
        · omega
        · exact h.2 y (List.mem_cons_of_mem _ hy)
theorem minI_mem : ∀ (is : List Int) (i : Int), minI i is ∈ i :: is ∧ ∀ y ∈ i :: is, minI i is ≤ y
  | [], i => ⟨List.mem_cons_self, fun y h => by rw [List.mem_singleton.mp h]; exact Int.le_refl _⟩
  | j :: is, i => by
    have h := minI_mem is (min i j)
    have e : minI i (j :: is) = minI (min i j) is := rfl
    rw [e]
    refine ⟨?_, fun y hy => ?_⟩
    · rcases List.mem_cons.mp h.1 with z | z
      · rw [z]
        rcases Int.le_total i j with q | q
        · rw [Int.min_eq_left q]; simp
        · rw [Int.min_eq_right q]; simp
      · exact List.mem_cons_of_mem _ (List.mem_cons_of_mem _ z)
    · have hm := h.2 _ List.mem_cons_self
      rcases List.mem_cons.mp hy with rfl | hy
      · omega
      · rcases List.mem_cons.mp hy with rfl | hy
        · omega
        · exact h.2 y (List.mem_cons_of_mem _ hy)
end VI
set_option Elab.async false
set_option linter.all false
set_option maxRecDepth 100000
set_option maxHeartbeats 4000000
/-! VIe: the rules for expressions, but comprehensions and calls. -/
namespace VI
open PySem PySem.Spec PyProof.Rows L2
section
variable {g : Gl0} {Wx : WX} {C : Cal} {X : Cx} {e a b c : Expr} {m ma mb mc : E} {pos : Pos}
/-! ### and, or, not, a if t else b -/
theorem tT_and (ha : PT X a (tT g Wx C ma)) {rest : List Expr} (hb : PW X (.BoolOp .And (b :: rest) pos) (tT g Wx C mb)) : PW X (.BoolOp .And (a :: b :: rest) pos) (tT g Wx C (.and ma mb)) := PW.weak (pw_and ha hb) fun σ H Q ⟨Φ, W, ρ, S, s, p⟩ => by
  have p : Pst g Wx σ (Own ρ σ) Φ H W RB (tru (ev C (.and ma mb) ρ S)) Q := p
  rw [ev] at p
  unfold tru at p
  rw [Rs.bind_bind] at p
  refine ⟨Φ, W, ρ, S, s, Pst.bind early_RB p fun q ρ1 S1 q' Φ1 H1 W1 _ l s1 r p1 => ?_⟩
  have r : q' = q := r
  subst r
  cases q' with
  | true => exact ⟨Φ1, W1, ρ1, S1, s1, p1⟩
  | false => exact Pst.okv (a := false) p1 s1 rfl
theorem tT_or (ha : PT X a (tT g Wx C ma)) {rest : List Expr} (hb : PW X (.BoolOp .Or (b :: rest) pos) (tT g Wx C mb)) : PW X (.BoolOp .Or (a :: b :: rest) pos) (tT g Wx C (.or ma mb)) := PW.weak (pw_or ha hb) fun σ H Q ⟨Φ, W, ρ, S, s, p⟩ => by
  have p : Pst g Wx σ (Own ρ σ) Φ H W RB (tru (ev C (.or ma mb) ρ S)) Q := p
  rw [ev] at p
  unfold tru at p
  rw [Rs.bind_bind] at p
  refine ⟨Φ, W, ρ, S, s, Pst.bind early_RB p fun q ρ1 S1 q' Φ1 H1 W1 _ l s1 r p1 => ?_⟩
  have r : q' = q := r
  subst r
  cases q' with
  | false => exact ⟨Φ1, W1, ρ1, S1, s1, p1⟩
  | true => exact Pst.okv (a := true) p1 s1 rfl
theorem tT_not (ha : PT X a (tT g Wx C ma)) : PT X (.UnaryOp .Not a pos) (tT g Wx C (.not ma)) := PT.weak (pt_not ha) fun σ H Q ⟨Φ, W, ρ, S, s, p⟩ => by
  have p : Pst g Wx σ (Own ρ σ) Φ H W RB (tru (ev C (.not ma) ρ S)) Q := p
  rw [ev] at p
  unfold tru at p
  rw [Rs.bind_bind] at p
  refine ⟨Φ, W, ρ, S, s, Pst.bind early_RB p fun q ρ1 S1 q' Φ1 H1 W1 _ l s1 r p1 => ?_⟩
  have r : q' = q := r
  subst r
  exact Pst.okv (a := !q') p1 s1 rfl
theorem tE_and (ha : PE X a (tE g Wx C ma)) {rest : List Expr} (hb : PE X (.BoolOp .And (b :: rest) pos) (tE g Wx C mb)) : PE X (.BoolOp .And (a :: b :: rest) pos) (tE g Wx C (.and ma mb)) := PE.weak (pe_and ha hb) fun σ H Q ⟨Φ, W, ρ, S, s, p⟩ => by
  rw [ev] at p
  unfold tru at p
  rw [Rs.bind_bind] at p
  refine ⟨Φ, W, ρ, S, s, Pst.bindF early_RV p fun v ρ1 S1 x Φ1 H1 W1 l s1 r p1 => ?_⟩
  cases v with
  | ow xs => exact p1.elim
  | fz d =>
    cases d with
    | bl q =>
      cases r
      refine ⟨q, rfl, ?_⟩
      cases q with
      | true => exact ⟨Φ1, W1, ρ1, S1, s1, p1⟩
      | false => exact Pst.okv (a := vbool false) p1 s1 (.bl _)
    | _ => exact p1.elim
theorem tE_or (ha : PE X a (tE g Wx C ma)) {rest : List Expr} (hb : PE X (.BoolOp .Or (b :: rest) pos) (tE g Wx C mb)) : PE X (.BoolOp .Or (a :: b :: rest) pos) (tE g Wx C (.or ma mb)) := PE.weak (pe_or ha hb) fun σ H Q ⟨Φ, W, ρ, S, s, p⟩ => by
  rw [ev] at p
  unfold tru at p
  rw [Rs.bind_bind] at p
  refine ⟨Φ, W, ρ, S, s, Pst.bindF early_RV p fun v ρ1 S1 x Φ1 H1 W1 l s1 r p1 => ?_⟩
  cases v with
  | ow xs => exact p1.elim
  | fz d =>
    cases d with
    | bl q =>
      cases r
      refine ⟨q, rfl, ?_⟩
      cases q with
      | false => exact ⟨Φ1, W1, ρ1, S1, s1, p1⟩
      | true => exact Pst.okv (a := vbool true) p1 s1 (.bl _)
    | _ => exact p1.elim
theorem tE_not (ha : PE X a (tE g Wx C ma)) : PE X (.UnaryOp .Not a pos) (tE g Wx C (.not ma)) := PE.weak (pe_not ha) fun σ H Q ⟨Φ, W, ρ, S, s, p⟩ => by
  rw [ev] at p
  unfold tru at p
  rw [Rs.bind_bind] at p
  refine ⟨Φ, W, ρ, S, s, Pst.bindF early_RV p fun v ρ1 S1 x Φ1 H1 W1 l s1 r p1 => ?_⟩
  cases v with
  | ow xs => exact p1.elim
  | fz d =>
    cases d with
    | bl q =>
      cases r
      exact ⟨q, rfl, Pst.okv (a := vbool !q) p1 s1 (.bl _)⟩
    | _ => exact p1.elim
theorem tE_ife (hc : PT X c (tT g Wx C mc)) (ha : PE X a (tE g Wx C ma)) (hb : PE X b (tE g Wx C mb)) : PE X (.IfExp c a b pos) (tE g Wx C (.ife mc ma mb)) := PE.weak (pe_ifExp hc ha hb) fun σ H Q ⟨Φ, W, ρ, S, s, p⟩ => by
  rw [ev] at p
  refine ⟨Φ, W, ρ, S, s, Pst.bind early_RV p fun q ρ1 S1 q' Φ1 H1 W1 _ l s1 r p1 => ?_⟩
  have r : q' = q := r
  subst r
  cases q' with
  | true => exact ⟨Φ1, W1, ρ1, S1, s1, p1⟩
  | false => exact ⟨Φ1, W1, ρ1, S1, s1, p1⟩
/-- a conditional expression as a test -/
theorem pt_ife {tc ta tb : TT} (hc : PT X c tc) (ha : PT X a ta) (hb : PT X b tb) : PT X (.IfExp c a b pos) (fun σ H Q => tc σ H fun k H1 => if k = true then ta σ H1 Q else tb σ H1 Q) := by
  refine ⟨fun pins s σ H Q I h => ?_⟩
  have e : PySem.isTrue (.IfExp c a b pos) X.env (eval (.IfExp c a b pos) X.env) = (do
      if ← PySem.isTrue c X.env (eval c X.env) then PySem.isTrue a X.env (eval a X.env) else PySem.isTrue b X.env (eval b X.env)) := by rw [PySem.isTrue]
  rw [e]
  refine wpAny_bind (thn (hc.run pins s σ H _ I h) fun k s1 ⟨H1, I1, q1⟩ => ?_)
  cases k with
  | true => exact ha.run pins s1 σ H1 Q I1 q1
  | false => exact hb.run pins s1 σ H1 Q I1 q1
theorem tT_ife (hc : PT X c (tT g Wx C mc)) (ha : PT X a (tT g Wx C ma)) (hb : PT X b (tT g Wx C mb)) : PT X (.IfExp c a b pos) (tT g Wx C (.ife mc ma mb)) := PT.weak (pt_ife hc ha hb) fun σ H Q ⟨Φ, W, ρ, S, s, p⟩ => by
  have p : Pst g Wx σ (Own ρ σ) Φ H W RB (tru (ev C (.ife mc ma mb) ρ S)) Q := p
  rw [ev] at p
  unfold tru at p
  rw [Rs.bind_bind] at p
  refine ⟨Φ, W, ρ, S, s, Pst.bind early_RB p fun q ρ1 S1 q' Φ1 H1 W1 _ l s1 r p1 => ?_⟩
  have r : q' = q := r
  subst r
  cases q' with
  | true => exact ⟨Φ1, W1, ρ1, S1, s1, p1⟩
  | false => exact ⟨Φ1, W1, ρ1, S1, s1, p1⟩
theorem tE_neg (ha : PE X a (tE g Wx C ma)) : PE X (.UnaryOp .USub a pos) (tE g Wx C (.neg ma)) := PE.weak (pe_un un_neg ha) fun σ H Q ⟨Φ, W, ρ, S, s, p⟩ => by
  rw [ev] at p
  refine ⟨Φ, W, ρ, S, s, Pst.bindF early_RV p fun v ρ1 S1 x Φ1 H1 W1 l s1 r p1 => ?_⟩
  cases v with
  | ow xs => exact p1.elim
  | fz d =>
    cases d with
    | int i =>
      cases r
      exact ⟨i, rfl, Pst.okv (a := Vl.fz (.int (-i))) p1 s1 (.int _)⟩
    | _ => exact p1.elim
/-! ### a op b op c -/
theorem tE_chn {op op2 : Cop} {o o2 : CmpOp} {r r2 : R2} (ho : OpR X (compareOp o) r) (ho2 : OpR X (compareOp o2) r2) (ok1 : CmOk g (cmpD op) r) (ok2 : CmOk g (cmpD op2) r2) (ha : PE X a (tO g Wx C ma)) (hb : PE X b (tO g Wx C mb)) (hc : PE X c (tO g Wx C mc))
    (hm : lastMarks [o, o2] [b, c] = false) : PE X (.Compare a [o, o2] [b, c] pos) (tE g Wx C (.chn op op2 ma mb mc)) := PE.weak (pe_chain ho ho2 ha hb hc hm) fun σ H Q ⟨Φ, W, ρ, S, s, p⟩ => by
  rw [ev] at p
  refine ⟨Φ, W, ρ, S, s, Pst.bindO early_RV p fun x ρ1 S1 u Φ1 H1 W1 l s1 q p1 => ⟨Φ1, W1, ρ1, S1, s1, Pst.bindO early_RV p1 fun y ρ2 S2 v Φ2 H2 W2 l2 s2 q2 p2 => ?_⟩⟩
  have q1 : RO g σ H2 u x Φ2 H2 W2 ρ2 := RO.later q l2.mono l2.wsub
  cases ex : x.get ρ2 with
  | none => rw [ex] at p2; exact p2.elim
  | some a' =>
    cases ey : y.get ρ2 with
    | none => rw [ex, ey] at p2; exact p2.elim
    | some b' =>
      cases ef : cmpD op a' b' with
      | none => simp only [ex, ey, Option.bind_some, ef] at p2; exact p2.elim
      | some z =>
        simp only [ex, ey, Option.bind_some, ef] at p2
        refine ok1 Φ2 H2 W2.w u v a' b' z _ s2.sub (q1.now s2 ex) (q2.now s2 ey) ef ⟨z, rfl, ?_⟩
        cases z with
        | false => exact Pst.okv (a := vbool false) p2 s2 (.bl _)
        | true =>
          refine ⟨Φ2, W2, ρ2, S2, s2, Pst.bindO early_RV p2 fun z ρ3 S3 w' Φ3 H3 W3 l3 s3 q3 p3 => ?_⟩
          have q4 : RO g σ H3 v y Φ3 H3 W3 ρ3 := RO.later q2 l3.mono l3.wsub
          cases ey2 : y.get ρ3 with
          | none => rw [ey2] at p3; exact p3.elim
          | some b2 =>
            cases ez : z.get ρ3 with
            | none => rw [ey2, ez] at p3; exact p3.elim
            | some c2 =>
              cases eg : cmpD op2 b2 c2 with
              | none => simp only [ey2, ez, Option.bind_some, eg] at p3; exact p3.elim
              | some k =>
                simp only [ey2, ez, Option.bind_some, eg] at p3
                exact ok2 Φ3 H3 W3.w v w' b2 c2 k Q s3.sub (q4.now s3 ey2) (q3.now s3 ez) eg (Pst.okv (a := vbool k) p3 s3 (.bl _))
/-- a comparison chain as a test: through its value -/
theorem pt_of_chain {o o2 : CmpOp} {r r2 : R2} {ta tb tc : TE} (h : PT X (.Compare a [o, o2] [b, c] pos) (tTest (tChain r r2 ta tb tc))) {t : TE} (w : ∀ σ H Q, t σ H Q → tChain r r2 ta tb tc σ H Q) : PT X (.Compare a [o, o2] [b, c] pos) (tB t) :=
  PT.weak h fun σ H Q q => w σ H _ q
theorem tT_chn {op op2 : Cop} {o o2 : CmpOp} {r r2 : R2} (ho : OpR X (compareOp o) r) (ho2 : OpR X (compareOp o2) r2) (ok1 : CmOk g (cmpD op) r) (ok2 : CmOk g (cmpD op2) r2) (ha : PE X a (tO g Wx C ma)) (hb : PE X b (tO g Wx C mb)) (hc : PE X c (tO g Wx C mc))
    (hm : lastMarks [o, o2] [b, c] = false) : PT X (.Compare a [o, o2] [b, c] pos) (tT g Wx C (.chn op op2 ma mb mc)) := PT.weak (pt_chain ho ho2 ha hb hc hm) fun σ H Q ⟨Φ, W, ρ, S, s, p⟩ => by
  have p : Pst g Wx σ (Own ρ σ) Φ H W RB (tru (ev C (.chn op op2 ma mb mc) ρ S)) Q := p
  rw [ev] at p
  unfold tru at p
  rw [Rs.bind_bind] at p
  refine ⟨Φ, W, ρ, S, s, Pst.bindO early_RB p fun x ρ1 S1 u Φ1 H1 W1 l s1 q p1 => ⟨Φ1, W1, ρ1, S1, s1, ?_⟩⟩
  rw [Rs.bind_bind] at p1
  refine Pst.bindO early_RB p1 fun y ρ2 S2 v Φ2 H2 W2 l2 s2 q2 p2 => ?_
  have q1 : RO g σ H2 u x Φ2 H2 W2 ρ2 := RO.later q l2.mono l2.wsub
  cases ex : x.get ρ2 with
  | none => rw [ex] at p2; exact p2.elim
  | some a' =>
    cases ey : y.get ρ2 with
    | none => rw [ex, ey] at p2; exact p2.elim
    | some b' =>
      cases ef : cmpD op a' b' with
      | none => simp only [ex, ey, Option.bind_some, ef] at p2; exact p2.elim
      | some z =>
        simp only [ex, ey, Option.bind_some, ef] at p2
        refine ok1 Φ2 H2 W2.w u v a' b' z _ s2.sub (q1.now s2 ex) (q2.now s2 ey) ef ⟨z, rfl, ?_⟩
        cases z with
        | false => exact ⟨false, rfl, Pst.okv (a := false) p2 s2 rfl⟩
        | true =>
          have p2 : Pst g Wx σ (Own ρ2 σ) Φ2 H2 W2 RB (((opd mc ρ2 S2 (ev C mc ρ2 S2)).bind fun z ρ S => (lift ((y.get ρ).bind fun y => (z.get ρ).bind fun z => cmpD op2 y z) ρ S).bind fun b ρ S => .ok (vbool b) ρ S).bind fun v ρ S => match v with
            | .fz (.bl b) => .ok b ρ S
            | _ => .no) Q := p2
          rw [Rs.bind_bind] at p2
          refine ⟨Φ2, W2, ρ2, S2, s2, Pst.bindO early_RB p2 fun z ρ3 S3 w' Φ3 H3 W3 l3 s3 q3 p3 => ?_⟩
          have q4 : RO g σ H3 v y Φ3 H3 W3 ρ3 := RO.later q2 l3.mono l3.wsub
          cases ey2 : y.get ρ3 with
          | none => rw [ey2] at p3; exact p3.elim
          | some b2 =>
            cases ez : z.get ρ3 with
            | none => rw [ey2, ez] at p3; exact p3.elim
            | some c2 =>
              cases eg : cmpD op2 b2 c2 with
              | none => simp only [ey2, ez, Option.bind_some, eg] at p3; exact p3.elim
              | some k =>
                simp only [ey2, ez, Option.bind_some, eg] at p3
                exact ok2 Φ3 H3 W3.w v w' b2 c2 k _ s3.sub (q4.now s3 ey2) (q3.now s3 ez) eg ⟨k, rfl, Pst.okv (a := k) p3 s3 rfl⟩
/-! ### slices -/
theorem tE_sl {lo hi : Option Expr} {ml mh : E} {p2 : Pos} (hK : X.K = g.K) (ha : PE X a (tO g Wx C ma)) (hl : PO X lo (tOp_ g Wx C ml)) (hh : PO X hi (tOp_ g Wx C mh)) : PE X (.Subscript a (.Slice lo hi none p2) pos) (tE g Wx C (.sl ma ml mh)) :=
  PE.weak (pe_slice sl_seq ha hl hh) fun σ H Q ⟨Φ, W, ρ, S, s, p⟩ => by
    rw [ev] at p
    rw [hK]
    refine ⟨Φ, W, ρ, S, s, Pst.bindO early_RV p fun x ρ1 S1 u Φ1 H1 W1 l s1 q p1 => ⟨Φ1, W1, ρ1, S1, s1, Pst.bind early_RV p1 fun ol ρ2 S2 ol' Φ2 H2 W2 _ l2 s2 r2 p2 => ⟨Φ2, W2, ρ2, S2, s2, Pst.bind early_RV p2 fun oh ρ3 S3 oh' Φ3 H3 W3 _ l3 s3 r3 p3 => ?_⟩⟩⟩
    have r2 : ol' = ol := r2
    have r3 : oh' = oh := r3
    subst r2 r3
    have q1 : RO g σ H3 u x Φ3 H3 W3 ρ3 := RO.later (RO.later (H0 := H3) (ρ2 := ρ2) (H2 := H2) q l2.mono l2.wsub) l3.mono l3.wsub
    cases ex : x.get ρ3 with
    | none => rw [ex] at p3; exact p3.elim
    | some a' =>
      cases ef : slD a' ol' oh' with
      | none => simp only [ex, Option.bind_some, ef] at p3; exact p3.elim
      | some v =>
        simp only [ex, Option.bind_some, ef] at p3
        exact ok_sl s3 (q1.now s3 ex) ef p3
/-! ### x[::-1] -/
def tRevA (K : PySem.W.Frag) (te : TE) : TE := fun σ H Q => te σ H fun x H1 => ∃ a xs, x = .ref a ∧ ((SqL K H1 a xs ∧ ∀ p, H1 p = none → Q (.ref p) (upd H1 p (.lst xs.reverse))) ∨ (SqT K H1 a xs ∧ NewT xs.reverse H1 Q))
theorem pe_revA {te : TE} {k : Nat} {p1 p2 p3 : Pos} (he : PE X e te) : PE X (.Subscript e (.Slice none none (some (.UnaryOp .USub (.Constant (.int 1) k p1) p2)) p3) pos) (tRevA X.K te) := by
  refine ⟨fun pins s σ H Q I h => ?_⟩
  refine Subscript_ (thn (he.run pins s σ H _ I h) fun v s1 ⟨x, H1, I1, r1, q1⟩ => ?_)
  obtain ⟨a, xs, ex, q⟩ := q1
  subst ex
  cases r1
  have hst : PO X (some (.UnaryOp .USub (.Constant (.int 1) k p1) p2)) (tPart (tUn (rU fun i => .int (-i)) (tC (.int 1)))) := po_some (pe_un un_neg pe_int)
  refine wpAny_Slice (thn (po_none.run pins s1 σ H1 (fun o H2 => o = none ∧ H2 = H1) I1 ⟨rfl, rfl⟩) fun vl s2 ⟨l, H2, I2, pl, el, e2⟩ => ?_)
  subst el e2
  refine thn (po_none.run pins s2 σ H2 (fun o H3 => o = none ∧ H3 = H2) I2 ⟨rfl, rfl⟩) fun vu s3 ⟨u, H3, I3, pu, eu, e3⟩ => ?_
  subst eu e3
  refine thn (hst.run pins s3 σ H3 (fun o H4 => o = some (-1) ∧ H4 = H3) I3 ⟨1, rfl, -1, rfl, rfl, rfl⟩) fun vs s4 ⟨o, H4, I4, ps, eo, e4⟩ => ?_
  subst eo e4
  have I5 : Inv X pins σ H4 { s4 with heap := s4.heap.push { cls := .type "slice", data := .fields #[vl, vu, vs] } } := I4.kept (t' := s4.toks) fun b ob q => Heap.get?_push_of_some _ q
  rcases q with ⟨hx, q⟩ | ⟨hx, q⟩
  · obtain ⟨its, r, ht, hz⟩ := I5.list hx
    have hlen := r.length
    show wpAny (model X.prog X.w) X.A (subscriptTail e (.Slice none none (some (.UnaryOp .USub (.Constant (.int 1) k p1) p2)) p3) (.ref a) (.ref s4.heap.objs.size)) (EP X pins σ Q) X.xe { s4 with heap := s4.heap.push { cls := .type "slice", data := .fields #[vl, vu, vs] } }
    refine tail_any (ops := [.ref a, .ref s4.heap.objs.size]) ht.isList.typeIs (PySem.slot_list_getitem.lookup) ?_ (by with_unfolding_all rfl)
    refine wpAny_getItem_list_slice ht.isList (Heap.IsSliceOf.new _ vl vu vs) pl pu ps (by decide) ?_ (by rw [List.size_toArray]; omega)
    rw [PySem.W.krv_pick]
    refine ⟨.ref _, _, I5.laid (t' := s4.toks) (o := .lst xs.reverse) (fun b ob q => Heap.get?_push_of_some _ q) (Nat.le_refl _) ?_, rfl, q _ (I5.hok.fresh (Nat.le_refl _))⟩
    exact ⟨by rw [List.length_reverse]; exact hz, _, 0, r.reverse, Heap.get?_push_size _ rfl⟩
  · obtain ⟨its, r, ht, hz⟩ := I5.tuple hx
    have hlen := r.length
    show wpAny (model X.prog X.w) X.A (subscriptTail e (.Slice none none (some (.UnaryOp .USub (.Constant (.int 1) k p1) p2)) p3) (.ref a) (.ref s4.heap.objs.size)) (EP X pins σ Q) X.xe { s4 with heap := s4.heap.push { cls := .type "slice", data := .fields #[vl, vu, vs] } }
    refine tail_any (ops := [.ref a, .ref s4.heap.objs.size]) ht.typeIs (PyProof.Rows.slot_tuple_getitem.lookup) ?_ (by with_unfolding_all rfl)
    refine getItem_tuple_rev ht (Heap.IsSliceOf.new _ vl vu vs) pl pu ps ?_ (by rw [List.size_toArray]; omega)
    exact newT_laid I5 r.reverse (by rw [List.length_reverse]; exact hz) q s4.toks
theorem tE_rev {k : Nat} {p1 p2 p3 : Pos} (hK : X.K = g.K) (ha : PE X a (tO g Wx C ma)) : PE X (.Subscript a (.Slice none none (some (.UnaryOp .USub (.Constant (.int 1) k p1) p2)) p3) pos) (tE g Wx C (.rev ma)) :=
  PE.weak (pe_revA ha) fun σ H Q ⟨Φ, W, ρ, S, s, p⟩ => by
    rw [ev] at p
    rw [hK]
    refine ⟨Φ, W, ρ, S, s, Pst.bindO early_RV p fun x ρ1 S1 u Φ1 H1 W1 l s1 q p1 => ?_⟩
    cases ex : x.get ρ1 with
    | none => rw [ex] at p1; exact p1.elim
    | some d =>
      have hx := q.now s1 ex
      cases d with
      | lst xs =>
        simp only [ex, Option.bind_some, revD] at p1
        obtain ⟨a, vs, rfl, h1, r1⟩ := hx.lst s1.sub
        exact ⟨a, vs, rfl, .inl ⟨SqL.of h1, fun b hb => new_ow s1 p1 r1.reverse hb⟩⟩
      | tup xs =>
        simp only [ex, Option.bind_some, revD] at p1
        obtain ⟨a, vs, rfl, h1, _, r1⟩ := hx.tup s1.sub
        exact ⟨a, vs, rfl, .inr ⟨h1, new_tup s1 p1 r1.reverse⟩⟩
      | _ => simp only [ex, Option.bind_some, revD] at p1; exact p1.elim
/-! ### built-in functions of one argument -/
def B1Ok (g : Gl0) (Wx : WX) (f : D → Option Vl) (r : List V → Hp → VK → Prop) : Prop := ∀ (σ : L2.St) (Φ H : Hp) (W : Wd) (ρ : Rho) (S : So) (x : V) (a : D) (v : Vl) (Q : VK), Stt g Φ H W ρ S σ → Nw g W.w Φ H x a → f a = some v →
  Pst g Wx σ (Own ρ σ) Φ H W (RV g σ) (.ok v ρ S) Q → r [x] H Q
theorem tE_b1 {b : B1} {r : List V → Hp → VK → Prop} (hE : PE X e (tCB r (tCons (tO g Wx C ma) tNil))) (ok : B1Ok g Wx (b1D b) r) : PE X e (tE g Wx C (.b1 b ma)) := PE.weak hE fun σ H Q ⟨Φ, W, ρ, S, s, p⟩ => by
  rw [ev] at p
  refine ⟨Φ, W, ρ, S, s, Pst.bindO early_RV p fun x ρ1 S1 u Φ1 H1 W1 l s1 q p1 => ?_⟩
  cases ex : x.get ρ1 with
  | none => rw [ex] at p1; exact p1.elim
  | some d =>
    cases ef : b1D b d with
    | none => simp only [ex, Option.bind_some, ef] at p1; exact p1.elim
    | some v =>
      simp only [ex, Option.bind_some, ef] at p1
      exact ok σ Φ1 H1 W1 ρ1 S1 u d v Q s1 (q.now s1 ex) ef p1
theorem CallR.or {f : Value} {r r' : List V → Hp → VK → Prop} (h : CallR X f r) (h' : CallR X f r') : CallR X f (fun xs H Q => r xs H Q ∨ r' xs H Q) := by
  intro pins s σ H xs us Q I rx q
  rcases q with q | q
  · exact h pins s σ H xs us Q I rx q
  · exact h' pins s σ H xs us Q I rx q
def rLenA (K : PySem.W.Frag) : List V → Hp → VK → Prop := fun xs H Q => (∃ p ys, xs = [.ref p] ∧ (SqL K H p ys ∨ SqT K H p ys) ∧ Q (.int ys.length) H) ∨ ∃ z, xs = [.str z] ∧ z.length ≤ sizeLine ∧ Q (.int z.length) H
theorem call_lenA : CallR X (.builtin "len") (rLenA X.K) := CallR.or call_len_seq call_len_str
theorem ok_len : B1Ok g Wx (b1D .len) (rLenA g.K) := by
  intro σ Φ H W ρ S x a v Q s hx he p
  cases a with
  | lst xs =>
    cases he
    obtain ⟨q, vs, rfl, h1, r1⟩ := hx.lst s.sub
    exact .inl ⟨q, vs, rfl, .inl (SqL.of h1), by rw [r1.length]; exact p.okv s (.int _)⟩
  | tup xs =>
    cases he
    obtain ⟨q, vs, rfl, h1, _, r1⟩ := hx.tup s.sub
    exact .inl ⟨q, vs, rfl, .inr h1, by rw [r1.length]; exact p.okv s (.int _)⟩
  | str z =>
    obtain ⟨hc, rfl⟩ := ok?_some he
    obtain rfl := hx.str
    exact .inr ⟨z, rfl, by rw [← lim_eq]; exact of_decide_eq_true hc, p.okv s (.int _)⟩
  | _ => cases he
def rTupF (K : PySem.W.Frag) : List V → Hp → VK → Prop := fun xs H Q => ∃ p ys, xs = [.ref p] ∧ ((SqL K H p ys ∧ NewT ys H Q) ∨ (SqT K H p ys ∧ Q (.ref p) H))
theorem call_tupleF : CallR X (.type "tuple") (rTupF X.K) := by
  intro pins s σ H xs us Q I r h
  obtain ⟨p, ys, rfl, h⟩ := h
  obtain ⟨u, rfl, rx⟩ := vals1 r
  obtain rfl : u = Value.ref p := rx
  rcases h with ⟨hq, q⟩ | ⟨hq, q⟩
  · obtain ⟨its, rv, pl, hz⟩ := I.list hq
    refine call_tuple_list pl.isList (fun h' kp => ?_) (by rw [List.size_toArray, ← rv.length]; exact hz)
    exact newT_laid (I.kept (t' := s.toks) kp) rv hz q s.toks
  · obtain ⟨its, rv, pl, hz⟩ := I.tuple hq
    exact call_tuple_same pl ⟨.ref p, H, I, rfl, q⟩
theorem ok_tuple : B1Ok g Wx (b1D .tuple) (rTupF g.K) := by
  intro σ Φ H W ρ S x a v Q s hx he p
  cases a with
  | lst xs =>
    cases he
    obtain ⟨q, vs, rfl, h1, r1⟩ := hx.lst s.sub
    exact ⟨q, vs, rfl, .inl ⟨SqL.of h1, new_tup s p r1⟩⟩
  | tup xs =>
    cases he
    obtain ⟨q, vs, rfl, h1, h2, r1⟩ := hx.tup s.sub
    exact ⟨q, vs, rfl, .inr ⟨h1, p.okv s (.tup h2 r1)⟩⟩
  | _ => cases he
theorem ok_list : B1Ok g Wx (b1D .list) (fun xs H Q => ∃ p ys, xs = [.ref p] ∧ (SqL g.K H p ys ∨ SqT g.K H p ys) ∧ ∀ l, H l = none → Q (.ref l) (upd H l (.lst ys))) := by
  intro σ Φ H W ρ S x a v Q s hx he p
  cases a with
  | lst xs =>
    cases he
    obtain ⟨q, vs, rfl, h1, r1⟩ := hx.lst s.sub
    exact ⟨q, vs, rfl, .inl (SqL.of h1), fun l hl => new_ow s p r1 hl⟩
  | tup xs =>
    cases he
    obtain ⟨q, vs, rfl, h1, h2, r1⟩ := hx.tup s.sub
    exact ⟨q, vs, rfl, .inr h1, fun l hl => new_ow s p r1 hl⟩
  | _ => cases he
theorem ok_int1 : B1Ok g Wx (b1D .int) (fun xs H Q => (∃ i, xs = [.int i] ∧ Q (.int i) H) ∨ ∃ k, xs = [.bl k] ∧ Q (.int (if k then 1 else 0)) H) := by
  intro σ Φ H W ρ S x a v Q s hx he p
  cases a with
  | int i =>
    cases he
    obtain rfl := hx.int
    exact .inl ⟨i, rfl, p.okv s (.int _)⟩
  | bl k =>
    cases he
    obtain rfl := hx.bl
    exact .inr ⟨k, rfl, p.okv s (.int _)⟩
  | _ => cases he
theorem ok_abs : B1Ok g Wx (b1D .abs) (fun xs H Q => ∃ i, xs = [.int i] ∧ Q (.int (if i < 0 then -i else i)) H) := by
  intro σ Φ H W ρ S x a v Q s hx he p
  cases a with
  | int i =>
    cases he
    obtain rfl := hx.int
    exact ⟨i, rfl, p.okv s (.int _)⟩
  | _ => cases he
theorem ok_sum : B1Ok g Wx (b1D .sum) (rSum g.K) := by
  intro σ Φ H W ρ S x a v Q s hx he p
  cases a with
  | lst xs =>
    have he : (ints? xs).map (fun is => Vl.fz (.int is.sum)) = some v := he
    cases e : ints? xs with
    | none => rw [e] at he; cases he
    | some is =>
      rw [e] at he
      cases he
      obtain ⟨q, vs, rfl, h1, r1⟩ := hx.lst s.sub
      have ev := r1.ints e
      subst ev
      exact ⟨q, is, rfl, SqL.of h1, p.okv s (.int _)⟩
  | _ => cases he
theorem ok_max : B1Ok g Wx (b1D .max) (rMax g.K) := by
  intro σ Φ H W ρ S x a v Q s hx he p
  cases a with
  | lst xs =>
    have he : (match ints? xs with
      | some (i :: is) => some (Vl.fz (.int (maxI i is)))
      | _ => none) = some v := he
    cases e : ints? xs with
    | none => rw [e] at he; cases he
    | some js =>
      rw [e] at he
      cases js with
      | nil => cases he
      | cons i is =>
        cases he
        obtain ⟨q, vs, rfl, h1, r1⟩ := hx.lst s.sub
        have ev := r1.ints e
        subst ev
        refine ⟨q, i :: is, rfl, SqL.of h1, Nat.succ_pos _, fun m hm hy => ?_⟩
        have hq := maxI_mem is i
        have em : m = maxI i is := Int.le_antisymm (hq.2 m hm) (hy _ hq.1)
        rw [em]
        exact p.okv s (.int _)
  | _ => cases he
theorem ok_min : B1Ok g Wx (b1D .min) (rMin g.K) := by
  intro σ Φ H W ρ S x a v Q s hx he p
  cases a with
  | lst xs =>
    have he : (match ints? xs with
      | some (i :: is) => some (Vl.fz (.int (minI i is)))
      | _ => none) = some v := he
    cases e : ints? xs with
    | none => rw [e] at he; cases he
    | some js =>
      rw [e] at he
      cases js with
      | nil => cases he
      | cons i is =>
        cases he
        obtain ⟨q, vs, rfl, h1, r1⟩ := hx.lst s.sub
        have ev := r1.ints e
        subst ev
        refine ⟨q, i :: is, rfl, SqL.of h1, Nat.succ_pos _, fun m hm hy => ?_⟩
        have hq := minI_mem is i
        have em : m = minI i is := Int.le_antisymm (hy _ hq.1) (hq.2 m hm)
        rw [em]
        exact p.okv s (.int _)
  | _ => cases he
theorem ok_any : B1Ok g Wx (b1D .any) (rAny g.K) := by
  intro σ Φ H W ρ S x a v Q s hx he p
  cases a with
  | lst xs =>
    have he : (bools? xs).map (fun bs => Vl.fz (.bl (bs.any id))) = some v := he
    cases e : bools? xs with
    | none => rw [e] at he; cases he
    | some is =>
      rw [e] at he
      cases he
      obtain ⟨q, vs, rfl, h1, r1⟩ := hx.lst s.sub
      have ev := r1.bools e
      subst ev
      exact ⟨q, is, rfl, SqL.of h1, p.okv s (.bl _)⟩
  | _ => cases he
theorem ok_all : B1Ok g Wx (b1D .all) (rAll g.K) := by
  intro σ Φ H W ρ S x a v Q s hx he p
  cases a with
  | lst xs =>
    have he : (bools? xs).map (fun bs => Vl.fz (.bl (bs.all id))) = some v := he
    cases e : bools? xs with
    | none => rw [e] at he; cases he
    | some is =>
      rw [e] at he
      cases he
      obtain ⟨q, vs, rfl, h1, r1⟩ := hx.lst s.sub
      have ev := r1.bools e
      subst ev
      exact ⟨q, is, rfl, SqL.of h1, p.okv s (.bl _)⟩
  | _ => cases he
theorem ints_eq : ∀ {ds : List D} {is : List Int}, ints? ds = some is → ds = is.map D.int
  | [], _, e => by cases e; rfl
  | d :: ds, is, e => by
    cases d with
    | int i =>
      unfold ints? at e
      cases e2 : ints? ds with
      | none => rw [e2] at e; cases e
      | some js => rw [e2] at e; cases e; rw [ints_eq e2]; rfl
    | _ => cases e
theorem tups_cons {d : D} {ds : List D} {ks : List (List Int)} (e : tups? (d :: ds) = some ks) : ∃ i is ks', d = tupI (i :: is) ∧ tups? ds = some ks' ∧ ks = (i :: is) :: ks' := by
  cases d with
  | tup xs =>
    unfold tups? at e
    split at e
    · rename_i i is ei
      cases e2 : tups? ds with
      | none => rw [e2] at e; cases e
      | some ks' => rw [e2] at e; cases e; exact ⟨i, is, ks', by rw [ints_eq ei]; rfl, rfl, rfl⟩
    · cases e
  | _ => cases e
theorem rps_ints {w : Wr} {Φ : Hp} : ∀ ns : List Int, Rps g w Φ (ns.map V.int) (ns.map D.int)
  | [] => .nil
  | n :: ns => .cons (.int n) (rps_ints ns)
theorem ints_mapD : ∀ is : List Int, ints? (is.map D.int) = some is
  | [] => rfl
  | i :: is => by
    rw [List.map_cons]
    unfold ints?
    rw [ints_mapD is]
    rfl
theorem tups_of {w : Wr} {Φ H : Hp} (sub : Same Φ H) : ∀ {vs : List V} {ds : List D} {ks : List (List Int)}, Rps g w Φ vs ds → tups? ds = some ks → Tups g.K H vs ks
  | _, _, _, .nil, e => by cases e; exact .nil
  | _, _, _, .cons h r, e => by
    obtain ⟨i, is, ks', rfl, e2, rfl⟩ := tups_cons e
    cases h with
    | tup hq hr =>
      have ev := hr.ints (ints_mapD (i :: is))
      subst ev
      exact .cons (same_seqT sub hq.sq) (by simp) (tups_of sub r e2)
theorem zip_rp {w : Wr} {Φ : Hp} : ∀ {vs : List V} {ds : List D} {ks : List (List Int)}, Rps g w Φ vs ds → tups? ds = some ks → ∀ q ∈ vs.zip ks, Rp g w Φ q.1 (tupI q.2)
  | _, _, _, .nil, e, q, h => absurd h (by simp)
  | _, _, _, .cons h r, e, q, hq => by
    obtain ⟨i, is, ks', rfl, e2, rfl⟩ := tups_cons e
    rw [List.zip_cons_cons] at hq
    rcases List.mem_cons.mp hq with rfl | hq
    · exact h
    · exact zip_rp r e2 q hq
theorem rps_zip {w : Wr} {Φ : Hp} : ∀ {ys : List V} {ks : List (List Int)}, ys.length = ks.length → (∀ q ∈ ys.zip ks, Rp g w Φ q.1 (tupI q.2)) → Rps g w Φ ys (ks.map tupI)
  | [], [], _, _ => .nil
  | [], _ :: _, h, _ => by cases h
  | _ :: _, [], h, _ => by cases h
  | y :: ys, k :: ks, h, hp => by
    rw [List.zip_cons_cons] at hp
    exact .cons (hp (y, k) List.mem_cons_self) (rps_zip (by simpa using h) fun q hq => hp q (List.mem_cons_of_mem _ hq))
theorem b1_srtT {xs : List D} {ks : List (List Int)} (h1 : ints? xs = none) (h2 : tups? xs = some ks) : b1D .sorted (.lst xs) = some (.ow ((srtL lexI ks).map tupI)) := by
  show (match ints? xs with
      | some is => some (Vl.ow ((srtL (fun i j : Int => decide (i < j)) is).map .int))
      | none => (match tups? xs with
        | some ks => some (Vl.ow ((srtL lexI ks).map tupI))
        | none => sortG xs)) = _
  rw [h1, h2]
theorem b1_srtG {xs : List D} (h1 : ints? xs = none) (h2 : tups? xs = none) : b1D .sorted (.lst xs) = sortG xs := by
  show (match ints? xs with
      | some is => some (Vl.ow ((srtL (fun i j : Int => decide (i < j)) is).map .int))
      | none => (match tups? xs with
        | some ks => some (Vl.ow ((srtL lexI ks).map tupI))
        | none => sortG xs)) = _
  rw [h1, h2]
theorem dpAll_at {K : PySem.W.Frag} {H : Hp} : ∀ {vs : List V} {ds : List PyData}, DpAll K H vs ds → ∀ q ∈ vs.zip ds, Dp K H q.1 q.2
  | _, _, .nil, q, h => absurd h (by simp)
  | _, _, .cons h r, q, hq => by
    rw [List.zip_cons_cons] at hq
    rcases List.mem_cons.mp hq with rfl | hq
    · exact h
    · exact dpAll_at r q hq
theorem pys_map : ∀ xs : List D, D.pys xs = xs.map D.py
  | [] => by rw [D.pys]; rfl
  | x :: xs => by rw [D.pys, pys_map xs]; rfl
theorem zip_srt {xs : List D} : ∀ {vs : List V}, vs.length = xs.length → ((vs.zip xs).map fun q => (q.1, q.2.py)) = vs.zip (D.pys xs) := by
  induction xs with
  | nil => intro vs h; cases vs <;> first | rfl | cases h
  | cons x xs ih =>
    intro vs h
    cases vs with
    | nil => cases h
    | cons v vs => rw [List.zip_cons_cons, List.map_cons, D.pys, List.zip_cons_cons, ih (by simpa using h)]
theorem rps_pairs {w : Wr} {Φ : Hp} : ∀ {qs : List (V × D)}, (∀ q ∈ qs, Rp g w Φ q.1 q.2) → Rps g w Φ (qs.map (·.1)) (qs.map (·.2))
  | [], _ => .nil
  | q :: qs, h => .cons (h q List.mem_cons_self) (rps_pairs fun z hz => h z (List.mem_cons_of_mem _ hz))
theorem rps_zipAll {w : Wr} {Φ : Hp} : ∀ {vs : List V} {ds : List D}, Rps g w Φ vs ds → ∀ q ∈ vs.zip ds, Rp g w Φ q.1 q.2
  | _, _, .nil, q, h => absurd h (by simp)
  | _, _, .cons h r, q, hq => by
    rw [List.zip_cons_cons] at hq
    rcases List.mem_cons.mp hq with rfl | hq
    · exact h
    · exact rps_zipAll r q hq
theorem canLays_of : ∀ {xs : List D}, (∀ x ∈ xs, SeqAt.shaped x.py = true) → PyData.canLayAll0 (D.pys xs) = true
  | [], _ => by rw [D.pys]; rfl
  | x :: xs, h => by
    rw [D.pys, PyData.canLayAll0, SeqAt.canLay_of_shaped (h x List.mem_cons_self), canLays_of fun y hy => h y (List.mem_cons_of_mem _ hy)]
    rfl
theorem plains_mem : ∀ {xs : List D}, D.plains xs = true → ∀ x ∈ xs, x.plain = true
  | [], _, x, h => by cases h
  | y :: xs, h, x, hx => by
    rw [D.plains, Bool.and_eq_true] at h
    rcases List.mem_cons.mp hx with rfl | hx
    · exact h.1
    · exact plains_mem h.2 x hx
theorem ok_sortG {σ : L2.St} {Φ H : Hp} {W : Wd} {ρ : Rho} {S : So} {v : Vl} {Q : VK} {q : Addr} {vs : List V} {xs : List D} (s : Stt g Φ H W ρ S σ) (h1 : H q = some (.lst vs)) (r1 : Rps g W.w Φ vs xs) (he : sortG xs = some v)
    (p : Pst g Wx σ (Own ρ σ) Φ H W (RV g σ) (.ok v ρ S) Q) : rSortedG g.K [.ref q] H Q ∨ rSortedS g.K [.ref q] H Q := by
  unfold sortG at he
  split at he
  · rename_i hl
    cases he
    exact .inr ⟨q, vs, rfl, SqL.of h1, by rw [r1.length]; exact hl, fun a ha => new_ow s p r1 ha⟩
  · obtain ⟨hk, rfl⟩ := ok?_some he
    unfold srtOk at hk
    simp only [Bool.and_eq_true, Bool.or_eq_true] at hk
    obtain ⟨⟨⟨k1, k2⟩, k3⟩, k4⟩ := hk
    have k2 := List.all_eq_true.mp k2
    have k3 := List.all_eq_true.mp k3
    have hcl : PyData.canLayAll0 (D.pys xs) = true := by
      exact canLays_of fun x hx => by
        have a := k2 x hx
        rw [Bool.and_eq_true] at a
        exact a.1
    have dp := Rps.dp (Rps.mono s.sub (WSub.refl W.w) r1) k1 hcl
    refine .inl ⟨q, vs, D.pys xs, rfl, SqL.of h1, by rw [pys_map, List.length_map]; exact r1.length, dpAll_at dp, ?_, ?_, ?_, fun a ha => ?_⟩
    · intro d hd d' hd'
      rw [pys_map] at hd hd'
      obtain ⟨x, hx, rfl⟩ := List.mem_map.mp hd
      obtain ⟨y, hy, rfl⟩ := List.mem_map.mp hd'
      exact List.all_eq_true.mp (k3 x hx) y hy
    · rcases k4 with k4 | k4
      · refine .inl fun d hd => ?_
        rw [pys_map] at hd
        obtain ⟨x, hx, rfl⟩ := List.mem_map.mp hd
        have := List.all_eq_true.mp k4 x hx
        cases x with
        | tup ys =>
          cases ys with
          | nil => cases this
          | cons y ys => exact ⟨_, _, by rw [D.py, D.pys]⟩
        | _ => cases this
      · refine .inr fun d hd => ?_
        rw [pys_map] at hd
        obtain ⟨x, hx, rfl⟩ := List.mem_map.mp hd
        have t := List.all_eq_true.mp k4 x hx
        have pl : x.plain = true := plains_mem k1 x hx
        cases x with
        | non => cases t
        | tup _ => cases t
        | obj _ _ => cases pl
        | src => cases pl
        | scr _ => cases pl
        | mem _ => cases pl
        | bl b => exact ⟨by rw [D.py]; exact fun z => (nomatch z), fun ys => by rw [D.py]; exact fun z => (nomatch z)⟩
        | int b => exact ⟨by rw [D.py]; exact fun z => (nomatch z), fun ys => by rw [D.py]; exact fun z => (nomatch z)⟩
        | str b => exact ⟨by rw [D.py]; exact fun z => (nomatch z), fun ys => by rw [D.py]; exact fun z => (nomatch z)⟩
        | lst b => exact ⟨by rw [D.py]; exact fun z => (nomatch z), fun ys => by rw [D.py]; exact fun z => (nomatch z)⟩
        | dic b => exact ⟨by rw [D.py]; exact fun z => (nomatch z), fun ys => by rw [D.py]; exact fun z => (nomatch z)⟩
    · intro d hd
      rw [pys_map] at hd
      obtain ⟨x, hx, rfl⟩ := List.mem_map.mp hd
      have := k2 x hx
      rw [Bool.and_eq_true] at this
      exact of_decide_eq_true this.2
    · have e1 : ((vs.zip (D.pys xs)).mergeSort fun a b => !PySem.W.dataLt b.2 a.2) = ((vs.zip xs).mergeSort fun a b => !PySem.W.dataLt b.2.py a.2.py).map fun q => (q.1, q.2.py) := by
        rw [← zip_srt r1.length, List.map_mergeSort]
        exact fun _ _ _ _ => rfl
      have e2 : srtD xs = ((vs.zip xs).mergeSort fun a b => !PySem.W.dataLt b.2.py a.2.py).map (·.2) := by
        rw [List.map_mergeSort (s := fun x y : D => !PySem.W.dataLt y.py x.py) (fun _ _ _ _ => rfl)]
        unfold srtD
        congr 1
        rw [List.map_snd_zip]
        exact Nat.le_of_eq r1.length.symm
      rw [e1, List.map_map]
      refine new_ow s p ?_ ha
      rw [e2]
      exact rps_pairs fun z hz => rps_zipAll r1 z ((List.mergeSort_perm _ _).mem_iff.mp hz)
theorem ok_sorted : B1Ok g Wx (b1D .sorted) (rSortedV g.K) := by
  intro σ Φ H W ρ S x a v Q s hx he p
  cases a with
  | lst xs =>
    have he : (match ints? xs with
      | some is => some (Vl.ow ((srtL (fun i j : Int => decide (i < j)) is).map .int))
      | none => (match tups? xs with
        | some ks => some (Vl.ow ((srtL lexI ks).map tupI))
        | none => sortG xs)) = some v := he
    obtain ⟨q, vs, rfl, h1, r1⟩ := hx.lst s.sub
    cases e : ints? xs with
    | some is =>
      rw [e] at he
      cases he
      have ev := r1.ints e
      subst ev
      refine .inl (.inl ⟨q, is, rfl, SqL.of h1, fun ns' a p1 p2 ha => ?_⟩)
      rw [srtI_eq p1 p2]
      exact new_ow s p (rps_ints _) ha
    | none =>
      rw [e] at he
      cases e2 : tups? xs with
      | none =>
        rw [e2] at he
        exact .inr (ok_sortG s h1 r1 he p)
      | some ks =>
        rw [e2] at he
        cases he
        refine .inl (.inr ⟨q, vs, ks, rfl, SqL.of h1, tups_of s.sub r1 e2, fun ys ks' a hl hp hk ha => ?_⟩)
        refine new_ow s p ?_ ha
        rw [← hk]
        exact rps_zip hl fun z hz => zip_rp r1 e2 z (hp.mem_iff.mp hz)
  | _ => cases he
theorem ok_sortR : B1Ok g Wx (b1D .sortR) (fun vs H Q => rSortedUR g.K vs [.bl true] H Q) := by
  intro σ Φ H W ρ S x a v Q s hx he p
  cases a with
  | lst xs =>
    have he : (match ints? xs with
      | some is => some (Vl.ow (((srtL (fun i j : Int => decide (i < j)) is).reverse).map .int))
      | none => (tups? xs).map fun ks => .ow (((srtL lexI ks).reverse).map tupI)) = some v := he
    obtain ⟨q, vs, rfl, h1, r1⟩ := hx.lst s.sub
    cases e : ints? xs with
    | some is =>
      rw [e] at he
      cases he
      have ev := r1.ints e
      subst ev
      refine .inl ⟨q, is, rfl, rfl, SqL.of h1, fun ns' a p1 p2 ha => ?_⟩
      rw [srtI_eqR p1 p2]
      exact new_ow s p (rps_ints _) ha
    | none =>
      rw [e] at he
      cases e2 : tups? xs with
      | none => rw [e2] at he; cases he
      | some ks =>
        rw [e2] at he
        cases he
        refine .inr ⟨q, vs, ks, rfl, rfl, SqL.of h1, tups_of s.sub r1 e2, fun ys ks' a hl hp hk ha => ?_⟩
        refine new_ow s p ?_ ha
        rw [← hk]
        exact rps_zip hl fun z hz => zip_rp r1 e2 z (hp.mem_iff.mp hz)
  | _ => cases he
theorem ok_str1 : B1Ok g Wx (b1D .str) (fun xs H Q => ∃ i, xs = [.int i] ∧ i.natAbs.log2 < 1920 ∧ Q (.str (toString i)) H) := by
  intro σ Φ H W ρ S x a v Q s hx he p
  cases a with
  | int i =>
    obtain ⟨hc, rfl⟩ := ok?_some he
    obtain rfl := hx.int
    refine ⟨i, rfl, ?_, p.okv s (.str _)⟩
    have hc := of_decide_eq_true hc
    by_cases h0 : i.natAbs = 0
    · rw [h0]; decide
    · have : i.natAbs.log2 < 40 := (Nat.log2_lt h0).mpr (Nat.lt_trans hc (by decide))
      omega
  | _ => cases he
/-- repr of data -/
def rRepr (K : PySem.W.Frag) : List V → Hp → VK → Prop := fun xs H Q => ∃ x d, xs = [x] ∧ Dq K H x d ∧ d.showable = true ∧ d.shown.length ≤ sizeLine ∧ d.depth ≤ 60 ∧ Q (.str d.shown) H
theorem call_repr (hu : X.A.units + 65 < cLine) (hg : X.A.guards = some []) : CallR X (.builtin "repr") (rRepr X.K) := by
  intro pins s σ H xs us Q I r h
  obtain ⟨x, d, rfl, hd, hs, hz, hdp, q⟩ := h
  obtain ⟨u, rfl, rx⟩ := vals1 r
  exact Sh.repr (Dq.sh I hd rx) hs hz hg (by omega) fun h' u tk hk => ⟨.str _, H, I.kept (t' := tk) hk, ⟨u, rfl⟩, q⟩
theorem ok_repr : B1Ok g Wx (b1D .repr) (rRepr g.K) := by
  intro σ Φ H W ρ S x a v Q s hx he p
  have he : ok? (a.plain && a.py.showable && decide (a.py.shown.length ≤ lim) && decide (a.py.depth ≤ 60)) (Vl.fz (.str a.py.shown)) = some v := he
  obtain ⟨hc, rfl⟩ := ok?_some he
  simp only [Bool.and_eq_true, decide_eq_true_eq] at hc
  obtain ⟨⟨⟨h1, h3⟩, h4⟩, h5⟩ := hc
  exact ⟨x, _, rfl, hx.dq s.sub h1, h3, by rw [← lim_eq]; exact h4, h5, p.okv s (.str _)⟩
/-! ### x in range(e) -/
def rIrg (neg : Bool) : R2 := fun x y H Q => ∃ i a lo hi, x = V.int i ∧ y = V.ref a ∧ H a = some (.rng lo hi) ∧ Q (.bl (if neg then !decide (lo ≤ i ∧ i < hi) else decide (lo ≤ i ∧ i < hi))) H
theorem op_irg_in : OpR X (compareOp .In) (rIrg false) := op_in_rng
theorem op_irg_nin : OpR X (compareOp .NotIn) (rIrg true) := by
  intro pins s σ H x y v u Q I rx ry h
  obtain ⟨i, a, lo, hi, rfl, rfl, ha, q⟩ := h
  obtain ⟨k, rfl⟩ := rx
  obtain rfl : u = Value.ref a := ry
  obtain ⟨t1, t2, t3, ho⟩ := I.hok a _ ha
  show wpAny _ _ (do return Value.bool (!(← contains (Value.ref a) (Value.int i k)))) _ _ s
  refine wpAny_bind (wpAny_contains_slot (T := "range") ⟨_, ho, rfl⟩ F.slot_range_contains (call_meets F.slot_range_contains ⟨_, ho, rfl⟩ F.entry_range_contains (F.args_range_contains_2 _ _) (q_contains a lo hi i t1 t2 t3 k)
    ⟨ho, wpAny_truthy_bool (wpAny_pure ⟨.bl _, H, I, rfl, ?_⟩)⟩))
  rw [place1]
  exact q
def rRg1 : List V → Hp → VK → Prop := fun vs H Q => ∃ j, vs = [V.int j] ∧ ∀ p, H p = none → Q (.ref p) (upd H p (.rng 0 j))
theorem cr_range1 : CallR X (.type "range") rRg1 := by
  intro pins s σ H vs us Q I r h
  obtain ⟨j, rfl, q⟩ := h
  obtain ⟨u1, rfl, ri⟩ := vals1 r
  obtain ⟨t, rfl⟩ := ri
  refine call_range_1 ⟨.ref s.heap.objs.size, upd H s.heap.objs.size (.rng 0 j), I.laid (t' := s.toks + 1 + 1) (fun b o e => Heap.get?_push_of_some _ e) (Nat.le_refl _) ?_, rfl, q _ (I.hok.fresh (Nat.le_refl _))⟩
  exact ⟨s.toks, t, s.toks + 1, Heap.get?_push_size _ rfl⟩
theorem irgD_some {neg : Bool} {a b : D} {c : Bool} (h : irgD neg a b = some c) : ∃ i j, a = .int i ∧ b = .int j ∧ c = (if neg then !decide (0 ≤ i ∧ i < j) else decide (0 ≤ i ∧ i < j)) := by
  unfold irgD at h
  split at h
  · cases h; exact ⟨_, _, rfl, rfl, rfl⟩
  · cases h; exact ⟨_, _, rfl, rfl, rfl⟩
  · cases h
theorem tE_irg {neg : Bool} {ma me : E} {e : Expr} (hE : PE X e (tOp (rIrg neg) (tE g Wx C ma) (tCB rRg1 (tCons (tE g Wx C me) tNil)))) : PE X e (tE g Wx C (.irg neg ma me)) := PE.weak hE fun σ H Q ⟨Φ, W, ρ, S, s, p⟩ => by
  rw [ev] at p
  refine ⟨Φ, W, ρ, S, s, Pst.bindF early_RV p fun v ρ1 S1 d Φ1 H1 W1 l s1 q p1 => ⟨Φ1, W1, ρ1, S1, s1, Pst.bindF early_RV p1 fun w ρ2 S2 d2 Φ2 H2 W2 l2 s2 q2 p2 => ?_⟩⟩
  cases hb : irgD neg v.d w.d with
  | none =>
    have p2 : Pst g Wx σ (Own ρ2 σ) Φ2 H2 W2 (RV g σ) ((lift (irgD neg v.d w.d) ρ2 S2).bind fun b ρ S => .ok (vbool b) ρ S) Q := p2
    rw [hb] at p2
    exact p2.elim
  | some b =>
    have p2 : Pst g Wx σ (Own ρ2 σ) Φ2 H2 W2 (RV g σ) ((lift (irgD neg v.d w.d) ρ2 S2).bind fun b ρ S => .ok (vbool b) ρ S) Q := p2
    rw [hb] at p2
    have p2 : Pst g Wx σ (Own ρ2 σ) Φ2 H2 W2 (RV g σ) (.ok (vbool b) ρ2 S2) Q := p2
    obtain ⟨i, j, e1, e2, rfl⟩ := irgD_some hb
    rw [e1] at q
    rw [e2] at q2
    cases q
    cases q2
    exact ⟨j, rfl, fun a ha => ⟨i, a, 0, j, rfl, rfl, upd_same, p2 (.bl _) Φ2 _ W2 (LS.new s2 ha) (s2.new ha) (.bl _)⟩⟩
theorem tT_irg {neg : Bool} {ma me : E} {e : Expr} (hE : PT X e (tTest (tOp (rIrg neg) (tE g Wx C ma) (tCB rRg1 (tCons (tE g Wx C me) tNil))))) : PT X e (tT g Wx C (.irg neg ma me)) := PT.weak hE fun σ H Q ⟨Φ, W, ρ, S, s, p⟩ => by
  have p : Pst g Wx σ (Own ρ σ) Φ H W RB (tru (ev C (.irg neg ma me) ρ S)) Q := p
  rw [ev] at p
  unfold tru at p
  have e1 : ∀ {α β γ : Type} (r : Rs α) (f : α → Rho → So → Rs β) (k : β → Rho → So → Rs γ), (r.bind f).bind k = r.bind fun a ρ S => (f a ρ S).bind k := fun r f k => by cases r <;> rfl
  rw [e1] at p
  refine ⟨Φ, W, ρ, S, s, Pst.bindF early_RB p fun v ρ1 S1 d Φ1 H1 W1 l s1 q p1 => ⟨Φ1, W1, ρ1, S1, s1, ?_⟩⟩
  rw [e1] at p1
  refine Pst.bindF early_RB p1 fun w ρ2 S2 d2 Φ2 H2 W2 l2 s2 q2 p2 => ?_
  cases hb : irgD neg v.d w.d with
  | none => rw [hb] at p2; exact p2.elim
  | some b =>
    rw [hb] at p2
    have p2 : Pst g Wx σ (Own ρ2 σ) Φ2 H2 W2 RB (.ok b ρ2 S2) Q := p2
    obtain ⟨i, j, e1, e2, rfl⟩ := irgD_some hb
    rw [e1] at q
    rw [e2] at q2
    cases q
    cases q2
    exact ⟨j, rfl, fun a ha => ⟨i, a, 0, j, rfl, rfl, upd_same, _, rfl, p2 _ Φ2 _ W2 (LS.new s2 ha) (s2.new ha) rfl⟩⟩
end
end VI
set_option Elab.async false
set_option linter.all false
set_option maxRecDepth 100000
set_option maxHeartbeats 4000000
/-! VIf: statements: the machine does what ex says. -/
namespace VI
open PySem PySem.Spec PyProof.Rows L2
/-- nobody's -/
def Zr : Addr → Prop := fun _ => False
/-- a value handed back -/
def VR (g : Gl0) (O : Addr → Prop) (H : Hp) (v : V) (Φ' H' : Hp) (W' : Wd) : Vl → Prop
  | .fz d => Rp g W'.w Φ' v d
  | .ow xs => ∃ p vs, v = .ref p ∧ H' p = some (.lst vs) ∧ Rps g W'.w Φ' vs xs ∧ Φ' p = none ∧ ¬ W'.fp p ∧ (O p ∨ H p = none)
/-- what is wanted behind a statement, at every end that r allows -/
def PstS (g : Gl0) (Wx : WX) (O : Addr → Prop) (Φ H : Hp) (W : Wd) (r : Rst) (D : Ends) : Prop := match r with
  | .nx ρ' S' => ∀ (σ' : L2.St) (Φ' H' : Hp) (W' : Wd), LS O Φ H W (Own ρ' σ') Φ' H' W' → Stt g Φ' H' W' ρ' S' σ' → D.nx σ' H'
  | .bk ρ' S' => ∀ (σ' : L2.St) (Φ' H' : Hp) (W' : Wd), LS O Φ H W (Own ρ' σ') Φ' H' W' → Stt g Φ' H' W' ρ' S' σ' → D.bk σ' H'
  | .ct ρ' S' => ∀ (σ' : L2.St) (Φ' H' : Hp) (W' : Wd), LS O Φ H W (Own ρ' σ') Φ' H' W' → Stt g Φ' H' W' ρ' S' σ' → D.ct σ' H'
  | .rt v _ S' => ∀ (b : V) (Φ' H' : Hp) (W' : Wd), LS O Φ H W Zr Φ' H' W' → Same Φ' H' → SrcOk g W' S' Φ' H' → VR g O H b Φ' H' W' v → D.rt b H'
  | .rs x ρ' S' => ∀ (c : Value) (d : Option Addr) (σ' : L2.St) (Φ' H' : Hp) (W' : Wd), LS O Φ H W (Own ρ' σ') Φ' H' W' → Stt g Φ' H' W' ρ' S' σ' → XOk g Φ' H' W' x c d → Wx c d σ' H'
  | .no => False
def tS (g : Gl0) (Wx : WX) (f : Rho → So → Rst) : TS := fun D σ H => ∃ Φ W ρ S, Stt g Φ H W ρ S σ ∧ PstS g Wx (Own ρ σ) Φ H W (f ρ S) D
section
variable {g : Gl0} {Wx : WX} {C : Cal} {X : Cx} {σ : L2.St} {O O1 O2 : Addr → Prop} {Φ H Φ1 H1 : Hp} {W W1 : Wd} {ρ ρ1 : Rho} {S S1 : So} {α β γ δ : Type} {D : Ends} {i : Nat} {b : V} {v : Vl}
theorem LS.toO (l : LS O Φ H W O1 Φ1 H1 W1) (h : ∀ a, O2 a → O1 a ∨ H a = none) : LS O Φ H W O2 Φ1 H1 W1 :=
  ⟨l.mono, l.keep, l.frz, l.wfp, l.wsub, l.live, fun a z => (h a z).elim (l.own a) .inr⟩
theorem LS.toZ (l : LS O Φ H W O1 Φ1 H1 W1) : LS O Φ H W Zr Φ1 H1 W1 := l.toO fun _ z => z.elim
theorem PstS.shift {r : Rst} (l : LS O Φ H W O1 Φ1 H1 W1) (h : PstS g Wx O Φ H W r D) : PstS g Wx O1 Φ1 H1 W1 r D := by
  cases r with
  | nx ρ' S' => exact fun σ' Φ' H' W' l' s => h σ' Φ' H' W' (l.trans l') s
  | bk ρ' S' => exact fun σ' Φ' H' W' l' s => h σ' Φ' H' W' (l.trans l') s
  | ct ρ' S' => exact fun σ' Φ' H' W' l' s => h σ' Φ' H' W' (l.trans l') s
  | rt v ρ' S' =>
    refine fun b Φ' H' W' l' e s q => h b Φ' H' W' (l.trans l') e s ?_
    cases v with
    | fz d => exact q
    | ow xs =>
      obtain ⟨p, vs, e1, e2, e3, e4, e5, e6⟩ := q
      exact ⟨p, vs, e1, e2, e3, e4, e5, e6.elim (l.own p) fun z => .inr (l.fresh z)⟩
  | rs x ρ' S' => exact fun c d σ' Φ' H' W' l' s q => h c d σ' Φ' H' W' (l.trans l') s q
  | no => exact h
theorem PstS.nx' (h : PstS g Wx (Own ρ σ) Φ H W (.nx ρ S) D) (s : Stt g Φ H W ρ S σ) : D.nx σ H := h σ Φ H W LS.refl s
/-- behind an expression -/
theorem PstS.bind {R' : Rl γ δ} {r : Rs γ} {f : γ → Rho → So → Rst} {Q' : δ → Hp → Prop} (h : PstS g Wx O Φ H W (r.st f) D)
    (k : ∀ (c : γ) (ρ1 : Rho) (S1 : So) (d : δ) (Φ1 H1 : Hp) (W1 : Wd), LS O Φ H W (Own ρ1 σ) Φ1 H1 W1 → Stt g Φ1 H1 W1 ρ1 S1 σ → R' H d c Φ1 H1 W1 ρ1 → PstS g Wx O Φ H W (f c ρ1 S1) D → Q' d H1) : Pst g Wx σ O Φ H W R' r Q' := by
  cases r with
  | ok c ρ1 S1 => exact fun d Φ1 H1 W1 l s q => k c ρ1 S1 d Φ1 H1 W1 l s q h
  | rs x ρ' S' => exact fun c d Φ' H' W' l s q => h c d σ Φ' H' W' l s q
  | no => exact h
theorem PstS.bindF {r : Rs Vl} {f : Vl → Rho → So → Rst} {Q' : V → Hp → Prop} (h : PstS g Wx O Φ H W (r.st f) D)
    (k : ∀ (c : Vl) (ρ1 : Rho) (S1 : So) (d : V) (Φ1 H1 : Hp) (W1 : Wd), LS O Φ H W (Own ρ1 σ) Φ1 H1 W1 → Stt g Φ1 H1 W1 ρ1 S1 σ → Rp g W1.w Φ1 d c.d → PstS g Wx (Own ρ1 σ) Φ1 H1 W1 (f c ρ1 S1) D → Q' d H1) : Pst g Wx σ O Φ H W (RV g σ) r Q' :=
  PstS.bind h fun c ρ1 S1 d Φ1 H1 W1 l s q p => by
    obtain ⟨Φ2, e, l2, s2, q2⟩ := told l s q
    exact k c ρ1 S1 d Φ2 H1 W1 l2 s2 q2 (p.shift l2)
/-! ### slots are written -/
theorem lt_slot (s : Stt g Φ H W ρ S σ) (h : i < ρ.length) : i < σ.length := by rw [← s.len]; exact h
theorem VOk.slok {H0 : Hp} (q : VOk g H0 b Φ H W O v) : SlOk g Φ H W (some b) v := by
  cases v with
  | fz d => exact ⟨b, rfl, q⟩
  | ow xs =>
    obtain ⟨p, vs, rfl, e2, e3, e4, e5, e6, e7⟩ := q
    exact ⟨p, vs, rfl, e2, e3, e4, e5⟩
/-- name = value -/
theorem Stt.set {H0 : Hp} (s : Stt g Φ H W ρ S σ) (q : VOk g H0 b Φ H W (Own ρ σ) v) : Stt g Φ H W (ρ.set i (some v)) S (σ.set i (some b)) := by
  refine ⟨s.sub, s.src, by rw [List.length_set, List.length_set]; exact s.len, fun j u e => ?_, fun j k xs ys p e1 e2 e3 e4 => ?_⟩
  · by_cases hj : i = j
    · subst hj
      have hl : i < ρ.length := by
        have := List.getElem?_eq_some_iff.mp e
        have := this.1
        rwa [List.length_set] at this
      rw [List.getElem?_set_self hl] at e
      cases e
      exact ⟨some b, by rw [List.getElem?_set_self (lt_slot s hl)], q.slok⟩
    · rw [List.getElem?_set_ne hj] at e ⊢
      exact s.slot j u e
  · have fin : ∀ (k : Nat) (ys : List D), i ≠ k → (ρ.set i (some v))[i]? = some (some (.ow xs)) → (σ.set i (some b))[i]? = some (some (.ref p)) → (ρ.set i (some v))[k]? = some (some (.ow ys)) → (σ.set i (some b))[k]? = some (some (.ref p)) → False := fun k ys hk f1 f2 f3 f4 => by
      have hl : i < ρ.length := by
        have := (List.getElem?_eq_some_iff.mp f1).1
        rwa [List.length_set] at this
      rw [List.getElem?_set_self hl] at f1
      rw [List.getElem?_set_self (lt_slot s hl)] at f2
      rw [List.getElem?_set_ne hk] at f3 f4
      cases f1
      cases f2
      obtain ⟨p', vs, z1, z2, z3, z4, z5, z6, z7⟩ := q
      cases z1
      exact z6 ⟨k, ys, f3, f4⟩
    by_cases hj : i = j
    · by_cases hk : i = k
      · rw [← hj, hk]
      · subst hj
        exact (fin k ys hk e1 e3 e2 e4).elim
    · by_cases hk : i = k
      · subst hk
        have hl : i < ρ.length := by
          have := (List.getElem?_eq_some_iff.mp e2).1
          rwa [List.length_set] at this
        rw [List.getElem?_set_self hl] at e2
        rw [List.getElem?_set_self (lt_slot s hl)] at e4
        rw [List.getElem?_set_ne hj] at e1 e3
        cases e2
        cases e4
        obtain ⟨p', vs, z1, z2, z3, z4, z5, z6, z7⟩ := q
        cases z1
        exact (z6 ⟨j, xs, e1, e3⟩).elim
      · rw [List.getElem?_set_ne hj] at e1 e3
        rw [List.getElem?_set_ne hk] at e2 e4
        exact s.apart j k xs ys p e1 e2 e3 e4
theorem own_set (s : Stt g Φ1 H1 W1 ρ S σ) {p : Addr} (h : Own (ρ.set i (some v)) (σ.set i (some b)) p) : Own ρ σ p ∨ ∃ xs, v = .ow xs ∧ b = .ref p := by
  obtain ⟨j, xs, f1, f2⟩ := h
  by_cases hj : i = j
  · subst hj
    have hl : i < ρ.length := by
      have := (List.getElem?_eq_some_iff.mp f1).1
      rwa [List.length_set] at this
    rw [List.getElem?_set_self hl] at f1
    rw [List.getElem?_set_self (lt_slot s hl)] at f2
    cases f1
    cases f2
    exact .inr ⟨xs, rfl, rfl⟩
  · rw [List.getElem?_set_ne hj] at f1 f2
    exact .inl ⟨j, xs, f1, f2⟩
theorem LS.set {O' : Addr → Prop} (l : LS O Φ H W (Own ρ σ) Φ1 H1 W1) (s : Stt g Φ1 H1 W1 ρ S σ) (q : VOk g H b Φ1 H1 W1 O' v) : LS O Φ H W (Own (ρ.set i (some v)) (σ.set i (some b))) Φ1 H1 W1 :=
  l.toO fun p z => by
    rcases own_set s z with z | ⟨xs, rfl, rfl⟩
    · exact .inl z
    · obtain ⟨p', vs, z1, _, _, _, _, _, z7⟩ := q
      cases z1
      exact .inr z7
/-! ### blocks and small statements -/
theorem tS_nil : PSs X [] (tS g Wx (exs C [])) := PSs.weak pss_nil fun D σ H ⟨Φ, W, ρ, S, s, p⟩ => by
  rw [exs] at p
  exact p.nx' s
theorem tS_cons {st : Stmt} {sts : List Stmt} {m : VI.S} {ms : List VI.S} (h : PS X st (tS g Wx (ex C m))) (hs : PSs X sts (tS g Wx (exs C ms))) : PSs X (st :: sts) (tS g Wx (exs C (m :: ms))) :=
  PSs.weak (pss_cons h hs) fun D σ H ⟨Φ, W, ρ, S, s, p⟩ => by
    rw [exs] at p
    refine ⟨Φ, W, ρ, S, s, ?_⟩
    cases e : ex C m ρ S with
    | nx ρ1 S1 =>
      rw [e] at p
      exact fun σ' Φ' H' W' l s' => ⟨Φ', W', ρ1, S1, s', PstS.shift l p⟩
    | bk ρ1 S1 => rw [e] at p; exact p
    | ct ρ1 S1 => rw [e] at p; exact p
    | rt v ρ1 S1 => rw [e] at p; exact p
    | rs x ρ1 S1 => rw [e] at p; exact p
    | no => rw [e] at p; exact p
theorem tS_pass {pos : Pos} : PS X (.Pass pos) (tS g Wx (ex C .pss)) := PS.weak ps_pass fun D σ H ⟨Φ, W, ρ, S, s, p⟩ => by
  rw [ex] at p
  exact p.nx' s
theorem tS_doc {x j pos pos'} : PS X (.Expr (.Constant (.str x) j pos) pos') (tS g Wx (ex C .pss)) := PS.weak ps_doc fun D σ H ⟨Φ, W, ρ, S, s, p⟩ => by
  rw [ex] at p
  exact p.nx' s
theorem tS_break {pos : Pos} : PS X (.Break pos) (tS g Wx (ex C .brk)) := PS.weak ps_break fun D σ H ⟨Φ, W, ρ, S, s, p⟩ => by
  rw [ex] at p
  exact p σ Φ H W LS.refl s
theorem tS_cont {pos : Pos} : PS X (.Continue pos) (tS g Wx (ex C .cnt)) := PS.weak ps_continue fun D σ H ⟨Φ, W, ρ, S, s, p⟩ => by
  rw [ex] at p
  exact p σ Φ H W LS.refl s
theorem tS_nev {st : Stmt} : PS X st (tS g Wx (ex C .nev)) := PS.weak ps_never fun D σ H ⟨Φ, W, ρ, S, s, p⟩ => by
  rw [ex] at p
  exact p
theorem tS_retN {pos : Pos} : PS X (.Return none pos) (tS g Wx (ex C .retn)) := PS.weak ps_retN fun D σ H ⟨Φ, W, ρ, S, s, p⟩ => by
  rw [ex] at p
  exact p .non Φ H W LS.refl.toZ s.sub s.src .non
theorem VOk.vr (q : VOk g H b Φ1 H1 W1 O1 v) : VR g O H b Φ1 H1 W1 v := by
  cases v with
  | fz d => exact q
  | ow xs =>
    obtain ⟨p, vs, e1, e2, e3, e4, e5, e6, e7⟩ := q
    exact ⟨p, vs, e1, e2, e3, e4, e5, .inr e7⟩
theorem tS_ret {e : Expr} {m : E} {pos : Pos} (h : PE X e (tE g Wx C m)) (hn : ∀ i, m ≠ .var i) : PS X (.Return (some e) pos) (tS g Wx (ex C (.ret m))) := PS.weak (ps_ret h) fun D σ H ⟨Φ, W, ρ, S, s, p⟩ => by
  rw [ex] at p
  refine ⟨Φ, W, ρ, S, s, ?_⟩
  have e2 : evR C m ρ S = ev C m ρ S := by
    unfold evR
    cases m <;> first | rfl | exact absurd rfl (hn _)
  rw [e2] at p
  exact PstS.bind p fun c ρ1 S1 d Φ1 H1 W1 l s1 q p1 => p1 d Φ1 H1 W1 l.toZ s1.sub s1.src (VOk.vr q)
theorem tS_retV {e : Expr} {pos : Pos} (h : PE X e (tVar i)) : PS X (.Return (some e) pos) (tS g Wx (ex C (.ret (.var i)))) := PS.weak (ps_ret h) fun D σ H ⟨Φ, W, ρ, S, s, p⟩ => by
  rw [ex] at p
  have p : PstS g Wx (Own ρ σ) Φ H W ((match ρ[i]? with
    | some (some v) => Rs.ok v ρ S
    | _ => .no : Rs Vl).st fun v ρ S => .rt v ρ S) D := p
  split at p
  · rename_i u hu
    obtain ⟨x, e2, ok⟩ := s.slot i u hu
    cases u with
    | fz d =>
      obtain ⟨v, rfl, r⟩ := ok
      exact ⟨v, e2, p v Φ H W LS.refl.toZ s.sub s.src r⟩
    | ow xs =>
      obtain ⟨a, vs, rfl, h1, r, h3, h4⟩ := ok
      exact ⟨.ref a, e2, p (.ref a) Φ H W LS.refl.toZ s.sub s.src ⟨a, vs, rfl, h1, r, h3, h4, .inl ⟨i, xs, hu, e2⟩⟩⟩
  · exact p.elim
theorem tS_ex {e : Expr} {m : E} {pos : Pos} (h : PE X e (tE g Wx C m)) (hs : swapsWith e none pos.line X.env = pure false) : PS X (.Expr e pos) (tS g Wx (ex C (.ex m))) := PS.weak (ps_expr h hs) fun D σ H ⟨Φ, W, ρ, S, s, p⟩ => by
  rw [ex] at p
  exact ⟨Φ, W, ρ, S, s, PstS.bindF p fun c ρ1 S1 d Φ1 H1 W1 l s1 q p1 => p1.nx' s1⟩
theorem tS_if {c : Expr} {a b : List Stmt} {mc : E} {ma mb : List VI.S} {pos : Pos} (hc : PT X c (tT g Wx C mc)) (ha : PSs X a (tS g Wx (exs C ma))) (hb : PSs X b (tS g Wx (exs C mb))) : PS X (.If c a b pos) (tS g Wx (ex C (.ite mc ma mb))) :=
  PS.weak (ps_if hc ha hb) fun D σ H ⟨Φ, W, ρ, S, s, p⟩ => by
    rw [ex] at p
    refine ⟨Φ, W, ρ, S, s, PstS.bind p fun q ρ1 S1 q' Φ1 H1 W1 l s1 e p1 => ?_⟩
    have e : q' = q := e
    subst e
    cases q' with
    | true => exact ⟨Φ1, W1, ρ1, S1, s1, p1.shift l⟩
    | false => exact ⟨Φ1, W1, ρ1, S1, s1, p1.shift l⟩
/-- name = e -/
theorem tS_set {x : Str} {e : Expr} {m : E} {pos pos' : Pos} (hN : X.N.Nodup) (hi : X.N[i]? = some x) (hx : Loc X.env.scope x) (h : PE X e (tE g Wx C m)) (hs : swapsWith e (some (.Name x pos')) pos.line X.env = pure false) (hf : X.fn x = true ∨ X.env.scope.names.lookup x = some .local) :
    PS X (.Assign [.Name x pos'] e pos) (tS g Wx (ex C (.asg (.nm i) m))) := PS.weak (ps_set hN hi hx h hs hf) fun D σ H ⟨Φ, W, ρ, S, s, p⟩ => by
  rw [ex] at p
  refine ⟨Φ, W, ρ, S, s, PstS.bind p fun c ρ1 S1 d Φ1 H1 W1 l s1 q p1 => ?_⟩
  exact p1 _ Φ1 H1 W1 (l.set s1 q) (s1.set q)
/-! ### targets -/
def Tg.ixs : Tg → List Nat
  | .nm i => [i]
  | .tp is => is
/-- a value that is known to all, or a tuple that is only taken apart -/
def RpU (g : Gl0) (w : Wr) (Φ H : Hp) (v : V) (d : VI.D) : Prop := Rp g w Φ v d ∨ ∃ a vs ds, v = .ref a ∧ d = .tup ds ∧ SqT g.K H a vs ∧ Rps g w Φ vs ds
def RpG (g : Gl0) (t : Tg) (w : Wr) (Φ H : Hp) (v : V) (d : VI.D) : Prop := match t with
  | .nm _ => Rp g w Φ v d
  | .tp _ => RpU g w Φ H v d
/-- target = such a value -/
def gD (g : Gl0) (t : Tg) : TG := fun v σ H Q => ∃ Φ W ρ S d ρ', Stt g Φ H W ρ S σ ∧ RpG g t W.w Φ H v d ∧ tgD t d ρ = some ρ' ∧
  ∀ σ', Stt g Φ H W ρ' S σ' → (∀ p, Own ρ' σ' p → Own ρ σ p) → (∀ vs, (∀ i ∈ t.ixs, i ∈ vs) → wipe σ' vs = wipe σ vs) → Q σ' H
theorem PG.weak {X : Cx} {e : Expr} {t t' : TG} (h : PG X e t) (w : ∀ v σ H Q, t' v σ H Q → t v σ H Q) : PG X e t' := ⟨fun pins s σ H v u Q I r q => h.run pins s σ H v u Q I r (w v σ H Q q)⟩
theorem PGs.weak {X : Cx} {e : List Expr} {t t' : TGs} (h : PGs X e t) (w : ∀ v σ H Q, t' v σ H Q → t v σ H Q) : PGs X e t' := ⟨fun pins s σ H v u Q I r q => h.run pins s σ H v u Q I r (w v σ H Q q)⟩
theorem wipe_set (σ : L2.St) (x : Option V) : ∀ {vs : List Nat}, i ∈ vs → wipe (σ.set i x) vs = wipe σ vs
  | [], h => by cases h
  | v :: vs, h => by
    unfold wipe
    by_cases hi : i ∈ vs
    · rw [wipe_set σ x hi]
    · have e : i = v := by
        rcases List.mem_cons.mp h with z | z
        · exact z
        · exact absurd z hi
      subst e
      have aux : ∀ vs : List Nat, i ∉ vs → wipe (σ.set i x) vs = (wipe σ vs).set i x := by
        intro vs
        induction vs with
        | nil => intro _; rfl
        | cons u us ih =>
          intro hu
          simp only [List.mem_cons, not_or] at hu
          unfold wipe
          rw [ih hu.2, List.set_comm _ _ hu.1]
      rw [aux vs hi, List.set_set]
theorem fz_set {d : VI.D} (s : Stt g Φ H W ρ S σ) (r : Rp g W.w Φ b d) : Stt g Φ H W (ρ.set i (some (.fz d))) S (σ.set i (some b)) ∧ ∀ p, Own (ρ.set i (some (.fz d))) (σ.set i (some b)) p → Own ρ σ p := by
  refine ⟨s.set (v := .fz d) (H0 := H) r, fun p z => ?_⟩
  rcases own_set s z with z | ⟨xs, e, _⟩
  · exact z
  · cases e
theorem gD_nm {x : Str} {pos : Pos} (hN : X.N.Nodup) (hi : X.N[i]? = some x) (hx : Loc X.env.scope x) (hf : X.fn x = true ∨ X.env.scope.names.lookup x = some .local) : PG X (.Name x pos) (gD g (.nm i)) := PG.weak (pg_name hN hi hx hf) fun v σ H Q ⟨Φ, W, ρ, S, d, ρ', s, r, e, q⟩ => by
  cases e
  obtain ⟨s', o'⟩ := fz_set (i := i) s r
  exact q _ s' o' fun vs hv => wipe_set σ _ (hv i (List.mem_cons_self))
/-- several names -/
def gDs (g : Gl0) (is : List Nat) : TGs := fun vs σ H Q => ∃ Φ W ρ S ds ρ', Stt g Φ H W ρ S σ ∧ Rps g W.w Φ vs ds ∧ setAll is ds ρ = some ρ' ∧
  ∀ σ', Stt g Φ H W ρ' S σ' → (∀ p, Own ρ' σ' p → Own ρ σ p) → (∀ vs, (∀ i ∈ is, i ∈ vs) → wipe σ' vs = wipe σ vs) → Q σ' H
theorem gDs_nil : PGs X [] (gDs g []) := PGs.weak pgs_nil fun vs σ H Q ⟨Φ, W, ρ, S, ds, ρ', s, r, e, q⟩ => by
  cases r with
  | nil =>
    cases e
    exact ⟨rfl, q σ s (fun _ z => z) fun _ _ => rfl⟩
  | cons _ _ => cases e
theorem gDs_cons {x : Str} {pos : Pos} {es : List Expr} {is : List Nat} (hN : X.N.Nodup) (hi : X.N[i]? = some x) (hx : Loc X.env.scope x) (hf : X.fn x = true ∨ X.env.scope.names.lookup x = some .local) (hs : PGs X es (gDs g is))
    (he : (assignEach (.Name x pos :: es) X.env).map (·.2) = assign (.Name x pos) X.env :: (assignEach es X.env).map (·.2)) : PGs X (.Name x pos :: es) (gDs g (i :: is)) :=
  PGs.weak (pgs_cons (pg_name hN hi hx hf) hs he) fun vs σ H Q ⟨Φ, W, ρ, S, ds, ρ', s, r, e, q⟩ => by
    cases r with
    | nil => cases e
    | @cons v vs d ds r rr =>
      refine ⟨v, vs, rfl, ?_⟩
      obtain ⟨s', o'⟩ := fz_set (i := i) s r
      refine ⟨Φ, W, _, S, ds, ρ', s', rr, e, fun σ' s2 o2 w2 => q σ' s2 (fun p z => o' p (o2 p z)) fun us hu => ?_⟩
      rw [w2 us fun j hj => hu j (List.mem_cons_of_mem _ hj)]
      exact wipe_set σ _ (hu i List.mem_cons_self)
theorem setAll_len : ∀ (is : List Nat) (ds : List VI.D) (ρ : Rho) {ρ' : Rho}, setAll is ds ρ = some ρ' → ds.length = is.length
  | [], [], _, _, _ => rfl
  | [], _ :: _, _, _, e => by cases e
  | _ :: _, [], _, _, e => by cases e
  | i :: is, d :: ds, ρ, ρ', e => congrArg Nat.succ (setAll_len is ds (ρ.set i (some (.fz d))) e)
theorem pg_or {X : Cx} {e : Expr} {t1 t2 : TG} (h1 : PG X e t1) (h2 : PG X e t2) : PG X e fun v σ H Q => t1 v σ H Q ∨ t2 v σ H Q := ⟨fun pins s σ H v u Q I r hw => hw.elim (h1.run pins s σ H v u Q I r) (h2.run pins s σ H v u Q I r)⟩
theorem gD_tp {es : List Expr} {is : List Nat} {k : Nat} {pos : Pos} (hK : X.K = g.K) (hc : X.calm = true) (h : PGs X es (gDs g is)) (hn : (assignEach es X.env).length = is.length) (hst : (assignEach es X.env).findIdx? (·.1) = none) : PG X (.Tuple es k pos) (gD g (.tp is)) :=
  PG.weak (pg_or (pg_tup hc h hn hst) (pg_lst hc h hn hst)) fun v σ H Q ⟨Φ, W, ρ, S, d, ρ', s, r, e, q⟩ => by
    cases d with
    | tup ds =>
      have e : setAll is ds ρ = some ρ' := e
      obtain ⟨a, vs, rfl, h1, r⟩ : ∃ a vs, v = .ref a ∧ SqT g.K H a vs ∧ Rps g W.w Φ vs ds := by
        rcases r with r | ⟨a, vs, ds', rfl, e2, h1, r⟩
        · cases r with
          | tup h1 r => exact ⟨_, _, rfl, same_seqT s.sub h1.sq, r⟩
        · cases e2; exact ⟨a, vs, rfl, h1, r⟩
      exact .inl ⟨a, vs, rfl, by rw [hK]; exact h1, by rw [r.length, setAll_len is ds ρ e], Φ, W, ρ, S, ds, ρ', s, r, e, q⟩
    | lst ds =>
      have e : setAll is ds ρ = some ρ' := e
      obtain ⟨a, vs, rfl, h1, r⟩ : ∃ a vs, v = .ref a ∧ SqL g.K H a vs ∧ Rps g W.w Φ vs ds := by
        rcases r with r | ⟨a, vs, ds', rfl, e2, h1, r⟩
        · cases r with
          | lst h1 r => exact ⟨_, _, rfl, SqL.of (s.sub _ _ h1), r⟩
        · cases e2
      exact .inr ⟨a, vs, rfl, by rw [hK]; exact h1, by rw [r.length, setAll_len is ds ρ e], Φ, W, ρ, S, ds, ρ', s, r, e, q⟩
    | _ => cases e
end
end VI
set_option Elab.async false
set_option linter.all false
set_option maxRecDepth 100000
set_option maxHeartbeats 4000000
/-! VIw: enumerate and zip over lists and tuples alike. -/
namespace VI
open PySem PySem.Spec PyProof.Rows L2 PySem.W
/-- t: a tuple; else a list -/
def SqB (K : PySem.W.Frag) : Bool → Hp → Addr → List V → Prop
  | true, H, a, xs => SqT K H a xs
  | false, H, a, xs => SqL K H a xs
def IterB : Bool → Heap → Addr → Addr → Nat → Prop
  | true, h, it, a, i => h.IsTupleIter it a i
  | false, h, it, a, i => h.IsListIter it a i
def ItsB : Bool → Heap → Addr → Array Value → Prop
  | true, h, a, its => h.IsTuple a its
  | false, h, a, its => h.IsList a its
def itO : Bool → Addr → Obj
  | true, a => { cls := .type "tuple_iterator", data := .fields #[.ref a, .int 0 0] }
  | false, a => { cls := .type "list_iterator", data := .fields #[.ref a, .int 0 0] }
theorem IterB.at {t : Bool} {h h' : Heap} {it a : Addr} {i : Nat} (x : IterB t h it a i) (e : ∀ o, h.get? it = some o → h'.get? it = some o) : IterB t h' it a i := by
  cases t
  · exact Heap.IsListIter.at x e
  · exact Heap.IsTupleIter.at x e
theorem IterB.live {t : Bool} {h : Heap} {it a : Addr} {i : Nat} (x : IterB t h it a i) : ∃ o, h.get? it = some o ∧ ∀ v, o.data ≠ .cell v := by
  cases t
  · obtain ⟨o, ho, _, hd⟩ := x
    exact ⟨o, ho, fun v z => by rw [hd] at z; cases z⟩
  · obtain ⟨o, ho, _, hd⟩ := x
    exact ⟨o, ho, fun v z => by rw [hd] at z; cases z⟩
theorem IterB.new {t : Bool} {h : Heap} {it a : Addr} (e : h.get? it = some (itO t a)) : IterB t h it a 0 := by
  cases t <;> exact ⟨_, e, rfl, rfl⟩
theorem draws_b {prog : Program} {w : World} {A : Around} (t : Bool) (hh : A.handled = none) (it a : Addr) (hne : a ≠ it) (its : Array Value) : Draws prog w A it [it, a] its.size (fun i v => its[i]? = some v) (fun i h => IterB t h it a i ∧ ItsB t h a its) := by
  cases t
  · exact Draws.list hh it a hne its
  · exact Draws.tuple hh it a hne its
theorem draws_end {prog : Program} {w : World} {A : Around} (t : Bool) (hh : A.handled = none) (it a : Addr) (its : Array Value) (i : Nat) (hle : its.size ≤ i) : Draws prog w A it [it, a] i (fun _ _ => False) (fun j h => j = i ∧ IterB t h it a i ∧ ItsB t h a its) where
  live := fun _ _ st => let ⟨o, ho, _⟩ := st.2.1.live; ⟨o, ho⟩
  frame := fun _ _ _ st hk => ⟨st.1, st.2.1.at fun o e => hk it (by simp) o e, by
    obtain ⟨_, _, st3⟩ := st
    cases t
    · exact Heap.IsList.at st3 fun o e => hk a (by simp) o e
    · exact Heap.IsTuple.at st3 fun o e => hk a (by simp) o e⟩
  item := fun j s Q E hj st hQ => absurd st.1 (Nat.ne_of_lt hj)
  done := fun s Q E st hE => by
    obtain ⟨_, st2, st3⟩ := st
    have hn : its[i]? = none := by simp; omega
    cases t
    · exact wpAny_nextOf_list_end hh st2 st3 hn hE
    · exact wpAny_nextOf_tuple_end hh st2 st3 hn hE
theorem begins_b (t : Bool) (a : Addr) (its : Array Value) : Begins (.ref a) (itO t a) fun h => ItsB t h a its := by
  cases t
  · exact begins_list a its
  · exact begins_tuple a its
section
variable {X : Cx} {pins : List (Addr × Obj)} {σ : L2.St} {H : Hp} {s : Shared} {t : Bool} {a : Addr} {xs ys : List V}
theorem seq_b (I : L2.Inv X pins σ H s) (h : SqB X.K t H a xs) : ∃ its : List Value, Vals xs its ∧ ItsB t s.heap a its.toArray ∧ a < s.heap.objs.size := by
  cases t
  · obtain ⟨its, rv, p, _⟩ := I.list h
    exact ⟨its, rv, p.isList, p.lt⟩
  · obtain ⟨its, rv, p, _⟩ := I.tuple h
    refine ⟨its, rv, p, ?_⟩
    obtain ⟨o, ho, _⟩ := p
    exact Heap.lt_size ho
theorem inj_b (I : L2.Inv X pins σ H s) (h : SqB X.K t H a xs) (h' : SqB X.K t H a ys) : xs = ys := by
  cases t
  · exact I.list_inj h h'
  · exact I.tuple_inj h h'
end
/-! ### enumerate -/
def IteB (K : PySem.W.Frag) (t : Bool) (a : Addr) : It :=
  ⟨fun i H => ∃ (xs : List V) (x : V), SqB K t H a xs ∧ xs[i]? = some x, fun i H v H' => ∃ T x, v = .ref T ∧ H T = none ∧ H' = upd H T (.tup [.int (i : Nat), x]) ∧ ∀ xs, SqB K t H a xs → xs[i]? = some x, fun i H => ∃ xs : List V, SqB K t H a xs ∧ xs.length ≤ i⟩
theorem turn_enumB {P : Program} {w : World} {K : PySem.W.Frag} {elts : List Expr} {kk : Nat} {tpos : Pos} (t : Bool) (a e it : Addr) (h1 : e ≠ it) (h2 : a ≠ it) (h3 : e ≠ a) :
    Turn P w K (.Tuple elts kk tpos) (IteB K t a) [e, it] e (fun i h => (∃ old, IsEnum h e it ((i : Nat) : Int) old) ∧ IterB t h it a i) where
  mem := by simp
  obj := fun i h st b hb => by
    obtain ⟨⟨old, he⟩, hi⟩ := st
    rcases (show b = e ∨ b = it by simpa using hb) with z | z
    · rw [z]; exact ⟨_, he, fun v q => nomatch q⟩
    · rw [z]; exact hi.live
  keep := fun i h h' st k => let ⟨⟨old, he⟩, hi⟩ := st; ⟨⟨old, k e (by simp) _ he⟩, hi.at fun o q => k it (by simp) o q⟩
  item := by
    intro X hP hw hK hc i pins s σ H E I hf st hg
    subst hP hw hK
    obtain ⟨⟨old, he⟩, hit⟩ := st
    obtain ⟨xs, x, hq, hx⟩ := hg
    obtain ⟨its, rv, p, _⟩ := seq_b I hq
    obtain ⟨u, hu, ru⟩ := rv.get hx
    have hel : e < s.heap.objs.size := Heap.lt_size he
    have hil : it < s.heap.objs.size := by obtain ⟨_, q, _⟩ := hit.live; exact Heap.lt_size q
    have hlt : i < its.toArray.size := by rw [List.size_toArray]; exact (List.getElem?_eq_some_iff.mp hu).1
    refine wpAny_pyNext_enum_itemD (draws_b (A := X.A.in1) t (I.ok.hd hc) it a h2 its.toArray) he ⟨hit, p⟩ hlt h1 (by simp [h1, h3]) fun y h' tk hy ho hst hT hsz hk => ?_
    obtain rfl : u = y := by
      have hy : its.toArray[i]? = some y := hy
      rw [List.getElem?_toArray, hu] at hy
      exact Option.some.inj hy
    refine ⟨_, rfl, wpAny_letOwnedTupleGo_enum (s := { s with heap := h', toks := tk + 1 }) ho fun h'' he' sb => ?_⟩
    have hT2 : h''.get? s.heap.objs.size = some { cls := .type "tuple", data := .seq #[.int i tk, u] } := (sb.2 _ (Nat.ne_of_gt hel)).trans hT
    have neu : ObjOk X.prog X.w (upd H s.heap.objs.size (.tup [.int (i : Nat), x])) h'' s.heap.objs.size (.tup [.int (i : Nat), x]) :=
      ⟨by show 2 ≤ sizeLine; decide, [.int i tk, u], .cons ⟨_, rfl⟩ (.cons ru .nil), ⟨_, hT2, rfl, _, rfl⟩⟩
    have I1 : L2.Inv X pins σ (upd H s.heap.objs.size (.tup [.int (i : Nat), x])) { s with heap := h'', toks := tk + 1 } :=
      I.turnedNew (ch := [e, it]) (fun b ob hb q => (sb.2 b (fun z => hb (by simp [z]))).trans (hk b ob (fun z => hb (by simp [z])) (fun z => hb (by simp [z])) q)) hf (Nat.le_refl _) neu
    refine ⟨.ref s.heap.objs.size, _, I1, rfl, ⟨_, x, rfl, I.hok.fresh (Nat.le_refl _), rfl, fun ys hy => by rw [inj_b I hy hq]; exact hx⟩, ⟨⟨u, ?_⟩, hst.1.at fun o q => (sb.2 it (Ne.symm h1)).trans q⟩, fun b hb => ?_⟩
    · have e1 : ((i + 1 : Nat) : Int) = (i : Int) + 1 := by omega
      rw [e1]; exact he'
    · have hb' : b < s.heap.objs.size := by
        rcases (show b = e ∨ b = it by simpa using hb) with z | z
        · rw [z]; exact hel
        · rw [z]; exact hil
      rw [upd_ne (Nat.ne_of_lt hb')]
      exact (hf b hb).1
  done := by
    intro X hP hw hK hc i pins s σ H E I hf st hg
    subst hP hw hK
    obtain ⟨⟨old, he⟩, hit⟩ := st
    obtain ⟨xs, hq, hx⟩ := hg
    obtain ⟨its, rv, p, _⟩ := seq_b I hq
    obtain ⟨f0, f1, f2, f3, f4, f5⟩ := hf it (by simp)
    have hl := rv.length
    exact wpAny_pyNext_enum_endD (draws_end (A := X.A.in1) t (I.ok.hd hc) it a its.toArray i (by rw [List.size_toArray]; omega)) he ⟨rfl, hit, p⟩ fun h' eb => ⟨rfl, I.turned (t' := s.toks) (fun b o hb q => eb b o hb q) f0 f1 f3 f4 f5⟩
  self := fun A i s Q E st h => let ⟨⟨_, he⟩, _⟩ := st; wpAny_pyIter_enum he h
set_option maxHeartbeats 8000000 in
theorem meets_enum1 {v : Value} {o : Obj} {H : Heap → Prop} (B : Begins v o H) :
    Meets (Builtin.«enumerate.__new__» ⟨[.type "enumerate", v], []⟩) (fun _ R s => H s.heap ∧
      R (.ok (.ret (.ref (s.heap.push o).objs.size))) { s with heap := (s.heap.push o).push { cls := .type "enumerate", data := .fields #[.none, .bool false, .ref s.heap.objs.size, rawInt 0, .none, .none] } }) :=
  .of_wp fun prog w A R s h => by
    obtain ⟨hp, g, d, tk, os⟩ := s
    obtain ⟨hH, h⟩ := h
    have hsub := sub_enumerate
    have qq : ∀ {A' : Around} {E : Value → Shared → Prop} {Q : Value → Shared → Prop}, Q (.ref hp.objs.size) ⟨hp.push o, g, d, tk, os⟩ → wpAny (model prog w) A' (pyIter v) Q E ⟨hp, g, d, tk, os⟩ :=
      fun q => B.iter prog w _ _ ⟨hp, g, d, tk, os⟩ _ hH q
    wp_walk using qq
    refine wpAny_stack_any fun stk => wpAny_pure ?_
    split
    · rename_i cc _ _ _ _ _
      cases (cc == Value.type "enumerate") <;> (wp_walk using qq; exact ⟨_, rfl, h⟩)
    · wp_walk using qq
      exact ⟨_, rfl, h⟩
theorem enum1_begins {prog : Program} {w : World} {A : Around} {E : Value → Shared → Prop} {s : Shared} {v : Value} {o : Obj} {H : Heap → Prop} {Q : Value → Shared → Prop} (B : Begins v o H) (hH : H s.heap)
    (h : ∀ h', IsEnum h' (s.heap.objs.size + 1) s.heap.objs.size 0 .none → h'.get? s.heap.objs.size = some o → (∀ b u, s.heap.get? b = some u → h'.get? b = some u) → Q (.ref (s.heap.objs.size + 1)) { s with heap := h' }) :
    wpAny (model prog w) A (call (.type "enumerate") [v]) Q E s := by
  refine callType_new F.called_enumerate (by decide) (F.typeCall_enumerate_1 _) (F.newCall_enumerate_1 _) (fun ob => F.args_object_init_2 ob _) F.entry_enumerate_new (meets_enum1 B) ⟨hH, ?_⟩
  have z1 : (s.heap.push o).objs.size = s.heap.objs.size + 1 := Heap.size_push ..
  show _ ∧ _
  rw [z1]
  have he : IsEnum ((s.heap.push o).push { cls := .type "enumerate", data := .fields #[.none, .bool false, .ref s.heap.objs.size, rawInt 0, .none, .none] }) (s.heap.objs.size + 1) s.heap.objs.size 0 .none := by
    have q := Heap.get?_push_size (s.heap.push o) (o := { cls := .type "enumerate", data := .fields #[.none, .bool false, .ref s.heap.objs.size, rawInt 0, .none, .none] }) rfl
    rw [z1] at q
    exact q
  exact ⟨⟨_, he, rfl⟩, h _ he (Heap.get?_push_of_some _ (Heap.get?_push_size _ B.free)) fun b u x => Heap.get?_push_of_some _ (Heap.get?_push_of_some _ x)⟩
def iEnumB (K : PySem.W.Frag) (ta : TA) : L2.TI := fun σ H R => ta σ H fun vs H1 => ∃ t a xs, vs = [.ref a] ∧ SqB K t H1 a xs ∧ R (IteB K t a) H1
theorem pi_enumB {X : Cx} {e : Expr} {ta : TA} {p pos tpos : Pos} {elts : List Expr} {kk : Nat} (hg : Gl X "enumerate") (hm : X.mg "enumerate" = none) (ha : PA X [e] ta) (hs : starEach [e] X.env = [(false, eval e X.env)]) :
    PI X (.Tuple elts kk tpos) (.Call (.Name "enumerate" p) [e] [] pos) (iEnumB X.K ta) := by
  refine ⟨fun pins s σ H R I h => ?_⟩
  refine Call_ (ld_blt I hg hm boot_enumerate (PyProof.Rows.callWith_type1 (thn (ha.run pos pins s σ H _ I h) fun us s1 ⟨vs, H1, I1, r1, q1⟩ => ?_) hs rfl))
  obtain ⟨t, a, xs, ex, hq, q⟩ := q1
  subst ex
  cases r1 with
  | cons r rr =>
    cases rr
    cases r
    obtain ⟨its, rv, p', la⟩ := seq_b I1 hq
    have la : (a : Nat) < s1.heap.objs.size := la
    refine enum1_begins (begins_b t a its.toArray) p' fun h' he hit hk => wpAny_pyIter_enum he ?_
    have I2 : L2.Inv X pins σ H1 { s1 with heap := h' } := I1.kept (t' := s1.toks) hk
    refine ⟨s1.heap.objs.size + 1, [s1.heap.objs.size + 1, s1.heap.objs.size], _, _, H1, rfl, I2, turn_enumB t a (s1.heap.objs.size + 1) s1.heap.objs.size (Nat.succ_ne_self _) (Nat.ne_of_lt la) (Nat.ne_of_gt (Nat.lt_succ_of_lt la)), ⟨⟨.none, he⟩, IterB.new hit⟩, fun b hb => ?_, q⟩
    have hle : s1.heap.objs.size ≤ b := by
      rcases (show b = s1.heap.objs.size + 1 ∨ b = s1.heap.objs.size by simpa using hb) with z | z
      · rw [z]; exact Nat.le_add_right _ _
      · rw [z]; exact Nat.le_refl _
    exact I1.fpOk hle (I1.hok.fresh hle)
/-! ### zip -/
def ItzB (K : PySem.W.Frag) (t u : Bool) (a b : Addr) : It :=
  ⟨fun i H => ∃ (xs ys : List V) (x y : V), SqB K t H a xs ∧ SqB K u H b ys ∧ xs[i]? = some x ∧ ys[i]? = some y,
    fun i H v H' => ∃ T x y, v = .ref T ∧ H T = none ∧ H' = upd H T (.tup [x, y]) ∧ (∀ xs, SqB K t H a xs → xs[i]? = some x) ∧ ∀ ys, SqB K u H b ys → ys[i]? = some y,
    fun i H => ∃ xs ys : List V, SqB K t H a xs ∧ SqB K u H b ys ∧ i = min xs.length ys.length⟩
theorem turn_zipB {P : Program} {w : World} {K : PySem.W.Frag} {elts : List Expr} {kk : Nat} {tpos : Pos} {t u : Bool} {a b z TI TO i1 i2 : Addr} (D : ZipSep2 z TI TO i1 i2 [i1, a] [i2, b]) (ha : a ≠ i1) (hb : b ≠ i2) :
    Turn P w K (.Tuple elts kk tpos) (ItzB K t u a b) [z, TI, TO, i1, i2] z (fun i h => IsZip h z TI TO .none ∧ IsTupOf2 h TI (.ref i1) (.ref i2) ∧ (∃ x y, IsTupOf2 h TO x y) ∧ IterB t h i1 a i ∧ IterB u h i2 b i) where
  mem := by simp
  obj := fun i h st c hc => by
    obtain ⟨hz, hTI, ⟨x, y, hTO⟩, l1, l2⟩ := st
    rcases (show c = z ∨ c = TI ∨ c = TO ∨ c = i1 ∨ c = i2 by simpa using hc) with q | q | q | q | q
    · rw [q]; exact ⟨_, hz, fun v q => nomatch q⟩
    · rw [q]; exact ⟨_, hTI, fun v q => nomatch q⟩
    · rw [q]; exact ⟨_, hTO, fun v q => nomatch q⟩
    · rw [q]; exact l1.live
    · rw [q]; exact l2.live
  keep := fun i h h' st k => by
    obtain ⟨hz, hTI, ⟨x, y, hTO⟩, l1, l2⟩ := st
    exact ⟨k z (by simp) _ hz, k TI (by simp) _ hTI, ⟨x, y, k TO (by simp) _ hTO⟩, l1.at fun o q => k i1 (by simp) o q, l2.at fun o q => k i2 (by simp) o q⟩
  item := by
    intro X hP hw hK hc i pins s σ H E I hf st hg
    subst hP hw hK
    obtain ⟨hz, hTI, ⟨x0, y0, hTO⟩, l1, l2⟩ := st
    obtain ⟨xs, ys, x, y, hqx, hqy, hx, hy⟩ := hg
    obtain ⟨its, rv, p, _⟩ := seq_b I hqx
    obtain ⟨its2, rv2, p2, _⟩ := seq_b I hqy
    obtain ⟨v1, hv1, ru⟩ := rv.get hx
    obtain ⟨v2, hv2, ru2⟩ := rv2.get hy
    have hzl : z < s.heap.objs.size := Heap.lt_size hz
    have hlt1 : i < its.toArray.size := by rw [List.size_toArray]; exact (List.getElem?_eq_some_iff.mp hv1).1
    have hlt2 : i < its2.toArray.size := by rw [List.size_toArray]; exact (List.getElem?_eq_some_iff.mp hv2).1
    refine wpAny_pyNext_zipD2_item D (draws_b (A := X.A.in1) t (I.ok.hd hc) i1 a ha its.toArray) (draws_b (A := X.A.in1) u (I.ok.hd hc) i2 b hb its2.toArray) hz hTI hTO ⟨l1, p⟩ ⟨l2, p2⟩ hlt1 hlt2 fun y1 y2 h' tk e1 e2 z' TO' st1 st2 hT hsz hk => ?_
    obtain rfl : v1 = y1 := by
      have e1 : its.toArray[i]? = some y1 := e1
      rw [List.getElem?_toArray, hv1] at e1
      exact Option.some.inj e1
    obtain rfl : v2 = y2 := by
      have e2 : its2.toArray[i]? = some y2 := e2
      rw [List.getElem?_toArray, hv2] at e2
      exact Option.some.inj e2
    refine ⟨_, rfl, wpAny_letOwnedTupleGo_zip (s := { s with heap := h', toks := tk }) z' fun h'' z'' sb => ?_⟩
    have hT2 : h''.get? s.heap.objs.size = some { cls := .type "tuple", data := .seq #[v1, v2] } := (sb.2 _ (Nat.ne_of_gt hzl)).trans hT
    have neu : ObjOk X.prog X.w (upd H s.heap.objs.size (.tup [x, y])) h'' s.heap.objs.size (.tup [x, y]) :=
      ⟨by show 2 ≤ sizeLine; decide, [v1, v2], .cons ru (.cons ru2 .nil), ⟨_, hT2, rfl, _, rfl⟩⟩
    have I1 : L2.Inv X pins σ (upd H s.heap.objs.size (.tup [x, y])) { s with heap := h'', toks := tk } :=
      I.turnedNew (t' := tk) (ch := [z, TI, TO, i1, i2]) (fun c o hb q => (sb.2 c (fun q' => hb (by simp [q']))).trans (hk c o (fun q' => hb (by simp [q'])) (fun q' => hb (by simp [q'])) (fun q' => hb (by simp [q'])) (fun q' => hb (by simp [q'])) q)) hf (Nat.le_refl _) neu
    refine ⟨.ref s.heap.objs.size, _, I1, rfl, ⟨_, x, y, rfl, I.hok.fresh (Nat.le_refl _), rfl, fun l hl => by rw [inj_b I hl hqx]; exact hx, fun l hl => by rw [inj_b I hl hqy]; exact hy⟩, ⟨z'', ?_, ⟨v1, v2, ?_⟩, ?_, ?_⟩, fun c hcm => ?_⟩
    · exact (sb.2 _ D.TIz).trans (hk _ _ D.TIz D.TITO D.TIi1 D.TIi2 hTI)
    · exact (sb.2 _ D.TOz).trans TO'
    · exact st1.1.at fun o q => (sb.2 _ (Ne.symm D.zi1)).trans q
    · exact st2.1.at fun o q => (sb.2 _ (Ne.symm D.zi2)).trans q
    · have hlt : c < s.heap.objs.size := by
        rcases (show c = z ∨ c = TI ∨ c = TO ∨ c = i1 ∨ c = i2 by simpa using hcm) with q | q | q | q | q
        · rw [q]; exact hzl
        · rw [q]; exact Heap.lt_size hTI
        · rw [q]; exact Heap.lt_size hTO
        · rw [q]; obtain ⟨_, e1, _⟩ := l1.live; exact Heap.lt_size e1
        · rw [q]; obtain ⟨_, e2, _⟩ := l2.live; exact Heap.lt_size e2
      rw [upd_ne (Nat.ne_of_lt hlt)]
      exact (hf c hcm).1
  done := by
    intro X hP hw hK hc i pins s σ H E I hf st hg
    subst hP hw hK
    obtain ⟨hz, hTI, ⟨x0, y0, hTO⟩, l1, l2⟩ := st
    obtain ⟨xs, ys, hqx, hqy, hend⟩ := hg
    obtain ⟨its, rv, p, _⟩ := seq_b I hqx
    obtain ⟨its2, rv2, p2, _⟩ := seq_b I hqy
    have r1 := rv.length
    have r2 := rv2.length
    have fin : ∀ (h' : Heap) (tk : Nat), (∀ c o, c ≠ z → c ≠ TO → c ≠ i1 → c ≠ i2 → s.heap.get? c = some o → h'.get? c = some o) → (none : Option Value) = none ∧ L2.Inv X pins σ H { s with heap := h', toks := tk } := fun h' tk hk =>
      ⟨rfl, I.turnedL (t' := tk) (ch := [z, TI, TO, i1, i2]) (fun c o hb q => hk c o (fun q' => hb (by simp [q'])) (fun q' => hb (by simp [q'])) (fun q' => hb (by simp [q'])) (fun q' => hb (by simp [q'])) q) hf⟩
    by_cases h1 : its.length ≤ i
    · have e1 := draws_end (prog := X.prog) (w := X.w) (A := X.A.in1) t (I.ok.hd hc) i1 a its.toArray i (by rw [List.size_toArray]; exact h1)
      by_cases h2 : its2.length ≤ i
      · exact wpAny_pyNext_zipD2_end D e1 (draws_end (A := X.A.in1) u (I.ok.hd hc) i2 b its2.toArray i (by rw [List.size_toArray]; exact h2)) hz hTI hTO ⟨rfl, l1, p⟩ ⟨rfl, l2, p2⟩ (Nat.le_refl _) (Nat.le_refl _) (.inl rfl) fin
      · exact wpAny_pyNext_zipD2_end D e1 (draws_b (A := X.A.in1) u (I.ok.hd hc) i2 b hb its2.toArray) hz hTI hTO ⟨rfl, l1, p⟩ ⟨l2, p2⟩ (Nat.le_refl _) (by rw [List.size_toArray]; omega) (.inl rfl) fin
    · exact wpAny_pyNext_zipD2_end D (draws_b (A := X.A.in1) t (I.ok.hd hc) i1 a ha its.toArray) (draws_end (A := X.A.in1) u (I.ok.hd hc) i2 b its2.toArray i (by rw [List.size_toArray]; omega)) hz hTI hTO ⟨l1, p⟩ ⟨rfl, l2, p2⟩ (by rw [List.size_toArray]; omega) (Nat.le_refl _) (.inr rfl) fin
  self := fun A i s Q E st h => wpAny_pyIter_zip st.1 h
def iZipB (K : PySem.W.Frag) (ta : TA) : L2.TI := fun σ H R => ta σ H fun vs H1 => ∃ t u a b xs ys, vs = [.ref a, .ref b] ∧ SqB K t H1 a xs ∧ SqB K u H1 b ys ∧ R (ItzB K t u a b) H1
theorem pi_zipB {X : Cx} {e e2 : Expr} {ta : TA} {p pos tpos : Pos} {elts : List Expr} {kk : Nat} (hg : Gl X "zip") (hm : X.mg "zip" = none) (ha : PA X [e, e2] ta)
    (hs : starEach [e, e2] X.env = (false, eval e X.env) :: starEach [e2] X.env) (hpl : (backTo pos (starEach [e2] X.env)).any (·.1) = false) :
    PI X (.Tuple elts kk tpos) (.Call (.Name "zip" p) [e, e2] [] pos) (iZipB X.K ta) := by
  refine ⟨fun pins s σ H R I h => ?_⟩
  refine Call_ (ld_blt I hg hm PyProof.Rows.boot_zip (PyProof.Rows.callWith_type1 (thn (ha.run pos pins s σ H _ I h) fun us s1 ⟨vs, H1, I1, r1, q1⟩ => ?_) hs hpl))
  obtain ⟨t, u, a, b, xs, ys, ex, hqx, hqy, q⟩ := q1
  subst ex
  cases r1 with
  | cons r rr =>
    cases rr with
    | cons r' rr =>
      cases rr
      cases r
      cases r'
      obtain ⟨its, rv, p1, la⟩ := seq_b I1 hqx
      obtain ⟨its2, rv2, p2, lb⟩ := seq_b I1 hqy
      have la : (a : Nat) < s1.heap.objs.size := la
      have lb : (b : Nat) < s1.heap.objs.size := lb
      refine zip_begins2 (begins_b t a its.toArray) (begins_b u b its2.toArray) p1 p2 fun h' hz hTI hTO h1 h2 hsz hk => wpAny_pyIter_zip hz ?_
      have I2 : L2.Inv X pins σ H1 { s1 with heap := h' } := I1.kept (t' := s1.toks) hk
      refine ⟨s1.heap.objs.size + 4, [s1.heap.objs.size + 4, s1.heap.objs.size + 2, s1.heap.objs.size + 3, s1.heap.objs.size, s1.heap.objs.size + 1], _, _, H1, rfl, I2, turn_zipB (zip_sep2 (fun c hc => by rw [List.mem_singleton.mp hc]; exact la) fun c hc => by rw [List.mem_singleton.mp hc]; exact lb) (Nat.ne_of_lt la) (Nat.ne_of_lt (Nat.lt_succ_of_lt lb)), ⟨hz, hTI, ⟨_, _, hTO⟩, IterB.new h1, IterB.new h2⟩, fun c hcm => ?_, q⟩
      have hle : s1.heap.objs.size ≤ c := by
        rcases (show c = s1.heap.objs.size + 4 ∨ c = s1.heap.objs.size + 2 ∨ c = s1.heap.objs.size + 3 ∨ c = s1.heap.objs.size ∨ c = s1.heap.objs.size + 1 by simpa using hcm) with z | z | z | z | z
        · rw [z]; exact Nat.le_add_right _ _
        · rw [z]; exact Nat.le_add_right _ _
        · rw [z]; exact Nat.le_add_right _ _
        · rw [z]; exact Nat.le_refl _
        · rw [z]; exact Nat.le_add_right _ _
      exact I1.fpOk hle (I1.hok.fresh hle)
end VI
set_option Elab.async false
set_option linter.all false
set_option maxRecDepth 100000
set_option maxHeartbeats 4000000
/-! VIg: loops, what is walked, comprehensions. -/
namespace VI
open PySem PySem.Spec PyProof.Rows L2
/-- J walks the items; u: they are only taken apart -/
structure Wk (g : Gl0) (u : Bool) (w0 : Wr) (Φ0 : Hp) (J : It) (items : List D) : Prop where
  go : ∀ (Φ H : Hp) (W : Wd) (ρ : Rho) (S : So) (σ : L2.St) (i : Nat) (d : D), Same Φ0 Φ → WSub w0 W.w → Stt g Φ H W ρ S σ → items[i]? = some d →
    J.go i H ∧ ∀ x H', J.yld i H x H' → ∃ Φ', LS (Own ρ σ) Φ H W (Own ρ σ) Φ' H' W ∧ Stt g Φ' H' W ρ S σ ∧ if u then RpU g W.w Φ' H' x d else Rp g W.w Φ' x d
  stop : ∀ (Φ H : Hp), Same Φ0 Φ → Same Φ H → J.stop items.length H
def RI' (g : Gl0) (u : Bool) : Rl (List D) It := fun _ J items Φ' _ W' _ => Wk g u W'.w Φ' J items
/-- iterables -/
def ItK.u : ItK → Bool
  | .enum => true
  | .zip => true
  | _ => false
def tI (g : Gl0) (Wx : WX) (C : Cal) (k : ItK) (args : List E) : TI := tR g Wx (fun _ => RI' g k.u) fun ρ S => (evs C args ρ S).bind fun ds ρ S => lift (itD k ds) ρ S
theorem PI.weak {X : Cx} {tg e : Expr} {t t' : TI} (h : PI X tg e t) (w : ∀ σ H Q, t' σ H Q → t σ H Q) : PI X tg e t' := ⟨fun pins s σ H Q I q => h.run pins s σ H Q I (w σ H Q q)⟩
section
variable {g : Gl0} {Wx : WX} {C : Cal} {X : Cx} {w0 : Wr} {Φ0 : Hp} {items : List D}
/-- walked as it stands, item by item -/
theorem Wk.plain {J : It} {vs : List V} (r : Rps g w0 Φ0 vs items) (hg : ∀ (Φ H : Hp) (i : Nat) (x : V), Same Φ0 Φ → Same Φ H → vs[i]? = some x → J.go i H) (hy : ∀ (Φ H H' : Hp) (i : Nat) (v x : V), Same Φ0 Φ → Same Φ H → vs[i]? = some v → J.yld i H x H' → H' = H ∧ vs[i]? = some x)
    (hs : ∀ (Φ H : Hp), Same Φ0 Φ → Same Φ H → J.stop vs.length H) : Wk g false w0 Φ0 J items := by
  refine ⟨fun Φ H W ρ S σ i d e ew s hi => ?_, fun Φ H e e2 => by rw [← r.length]; exact hs Φ H e e2⟩
  obtain ⟨v, hv, rv⟩ := r.get hi
  refine ⟨hg Φ H i v e s.sub hv, fun x H' y => ?_⟩
  obtain ⟨rfl, e3⟩ := hy Φ H H' i v x e s.sub hv y
  rw [hv] at e3
  cases e3
  exact ⟨Φ, LS.refl, s, rv.mono e ew⟩
/-- each turn's item a new pair -/
theorem Wk.pair {J : It} (hg : ∀ (Φ H : Hp) (i : Nat) (d : D), Same Φ0 Φ → Same Φ H → items[i]? = some d → J.go i H)
    (hy : ∀ (Φ H H' : Hp) (i : Nat) (d : D) (x : V), Same Φ0 Φ → Same Φ H → items[i]? = some d → J.yld i H x H' → ∃ T us ds, x = .ref T ∧ H T = none ∧ H' = upd H T (.tup us) ∧ d = .tup ds ∧ Rps g w0 Φ0 us ds)
    (hs : ∀ (Φ H : Hp), Same Φ0 Φ → Same Φ H → J.stop items.length H) : Wk g true w0 Φ0 J items := by
  refine ⟨fun Φ H W ρ S σ i d e ew s hi => ⟨hg Φ H i d e s.sub hi, fun x H' y => ?_⟩, hs⟩
  obtain ⟨T, us, ds, rfl, hT, rfl, rfl, r⟩ := hy Φ H H' i d x e s.sub hi y
  exact ⟨Φ, LS.new s hT, s.new hT, .inr ⟨T, us, ds, rfl, rfl, SqT.of upd_same, r.mono e ew⟩⟩
theorem wk_list {a : Addr} {vs : List V} (h : Φ0 a = some (.lst vs)) (r : Rps g w0 Φ0 vs items) : Wk g false w0 Φ0 (Itl g.K a) items := by
  have q : ∀ {Φ H : Hp}, Same Φ0 Φ → Same Φ H → SqL g.K H a vs := fun e e2 => SqL.of (e2 _ _ (e _ _ h))
  exact Wk.plain r (fun Φ H i x e e2 hx => ⟨vs, x, q e e2, hx⟩) (fun Φ H H' i v x e e2 _ y => ⟨y.1, y.2 vs (q e e2)⟩) fun Φ H e e2 => ⟨vs, q e e2, Nat.le_refl _⟩
theorem wk_scr {a : Addr} {ns : List Int} (h : SqL g.K Φ0 a (ns.map V.int)) : Wk g false w0 Φ0 (Itl g.K a) (ns.map D.int) := by
  have q : ∀ {Φ H : Hp}, Same Φ0 Φ → Same Φ H → SqL g.K H a (ns.map V.int) := fun e e2 => e2.seq (e.seq h)
  have r : Rps g w0 Φ0 (ns.map V.int) (ns.map D.int) := by
    clear h q
    induction ns with
    | nil => exact .nil
    | cons n ns ih => exact .cons (.int n) ih
  exact Wk.plain r (fun Φ H i x e e2 hx => ⟨_, x, q e e2, hx⟩) (fun Φ H H' i v x e e2 _ y => ⟨y.1, y.2 _ (q e e2)⟩) fun Φ H e e2 => ⟨_, q e e2, Nat.le_refl _⟩
theorem wk_tup {a : Addr} {vs : List V} (h : SqT g.K Φ0 a vs) (r : Rps g w0 Φ0 vs items) : Wk g false w0 Φ0 (Itt g.K a) items := by
  have q : ∀ {Φ H : Hp}, Same Φ0 Φ → Same Φ H → SqT g.K H a vs := fun e e2 => same_seqT e2 (same_seqT e h)
  exact Wk.plain r (fun Φ H i x e e2 hx => ⟨vs, x, q e e2, hx⟩) (fun Φ H H' i v x e e2 _ y => ⟨y.1, y.2 vs (q e e2)⟩) fun Φ H e e2 => ⟨vs, q e e2, Nat.le_refl _⟩
theorem rps_rng (w : Wr) (Φ : Hp) (lo : Int) : ∀ n : Nat, Rps g w Φ ((List.range n).map fun i => V.int (lo + (i : Nat))) ((List.range n).map fun i => D.int (lo + (i : Nat))) := by
  have aux : ∀ l : List Nat, Rps g w Φ (l.map fun i => V.int (lo + (i : Nat))) (l.map fun i => D.int (lo + (i : Nat))) := by
    intro l
    induction l with
    | nil => exact .nil
    | cons i l ih => exact .cons (.int _) ih
  exact fun n => aux _
theorem wk_rng {lo : Int} {n : Nat} : Wk g false w0 Φ0 (Itr lo n) ((List.range n).map fun i => D.int (lo + (i : Nat))) := by
  refine Wk.plain (rps_rng w0 Φ0 lo n) (fun Φ H i x e e2 hx => ?_) (fun Φ H H' i v x e e2 hv y => ⟨y.1, ?_⟩) fun Φ H e e2 => ?_
  · have := (List.getElem?_eq_some_iff.mp hx).1
    rw [List.length_map, List.length_range] at this
    exact this
  · have := (List.getElem?_eq_some_iff.mp hv).1
    rw [List.length_map, List.length_range] at this
    rw [y.2, List.getElem?_map, List.getElem?_range this]
    rfl
  · show n ≤ _
    rw [List.length_map, List.length_range]
    exact Nat.le_refl _
theorem rngL_eq (lo hi : Int) : rngL lo hi = (List.range (hi - lo).toNat).map fun i => D.int (lo + (i : Nat)) := rfl
/-! ### what is walked -/
/-- a list or a tuple -/
def iSeqA (K : PySem.W.Frag) (tl : TE) : TI := fun σ H R => tl σ H fun x H1 => ∃ a xs, x = .ref a ∧ ((SqL K H1 a xs ∧ R (Itl K a) H1) ∨ (SqT K H1 a xs ∧ R (Itt K a) H1))
theorem pi_seqA {tg e : Expr} {te : TE} (he : PE X e te) : PI X tg e (iSeqA X.K te) := by
  refine ⟨fun pins s σ H R I q => ?_⟩
  refine thn (he.run pins s σ H _ I q) fun u s1 ⟨x, H1, I1, rx, a, xs, ex, q1⟩ => ?_
  subst ex
  obtain rfl : u = Value.ref a := rx
  have fp : ∀ b ∈ [s1.heap.objs.size], FpOk X pins H1 b := fun b hb => by
    obtain rfl : b = s1.heap.objs.size := by simpa using hb
    exact I1.fpOk (Nat.le_refl _) (I1.hok.fresh (Nat.le_refl _))
  rcases q1 with ⟨hq, q1⟩ | ⟨hq, q1⟩
  · obtain ⟨its, _, pl, _⟩ := I1.list hq
    exact wpAny_pyIter_list pl.isList ⟨_, _, _, _, H1, rfl, I1.kept (t' := s1.toks) fun b o z => Heap.get?_push_of_some _ z, turn_list a _, ⟨_, Heap.get?_push_size _ rfl, rfl, rfl⟩, fp, q1⟩
  · obtain ⟨its, _, pl, _⟩ := I1.tuple hq
    exact wpAny_pyIter_tuple (show s1.heap.IsTuple a its.toArray from pl) ⟨_, _, _, _, H1, rfl, I1.kept (t' := s1.toks) fun b o z => Heap.get?_push_of_some _ z, turn_tuple a _, ⟨_, Heap.get?_push_size _ rfl, rfl, rfl⟩, fp, q1⟩
theorem early_RI' {u : Bool} : Early (RI' g u) := fun _ _ _ _ _ _ _ _ _ q => q
theorem evs_one (ρ : Rho) (S : So) (m : E) : evs C [m] ρ S = (ev C m ρ S).bind fun v ρ S => .ok [v.d] ρ S := by
  rw [evs]
  congr 1
theorem tI_val {tg e : Expr} {m : E} (hK : X.K = g.K) (h : PE X e (tE g Wx C m)) : PI X tg e (tI g Wx C .val [m]) := PI.weak (pi_seqA h) fun σ H R ⟨Φ, W, ρ, S, s, p⟩ => by
  have p : Pst g Wx σ (Own ρ σ) Φ H W (RI' g false) ((evs C [m] ρ S).bind fun ds ρ S => lift (itD .val ds) ρ S) R := p
  rw [evs_one, Rs.bind_bind] at p
  rw [hK]
  refine ⟨Φ, W, ρ, S, s, Pst.bindF early_RI' p fun c ρ1 S1 d Φ1 H1 W1 l s1 r p1 => ?_⟩
  have p1 : Pst g Wx σ (Own ρ1 σ) Φ1 H1 W1 (RI' g false) (lift c.d.items1 ρ1 S1) R := p1
  cases e : c.d with
  | lst xs =>
    rw [e] at p1 r
    cases r with
    | lst h1 r1 => exact ⟨_, _, rfl, .inl ⟨SqL.of (s1.sub _ _ h1), Pst.okv (a := xs) p1 s1 (wk_list h1 r1)⟩⟩
  | tup xs =>
    rw [e] at p1 r
    cases r with
    | tup h1 r1 => exact ⟨_, _, rfl, .inr ⟨same_seqT s1.sub h1.sq, Pst.okv (a := xs) p1 s1 (wk_tup h1.sq r1)⟩⟩
  | scr ns =>
    rw [e] at p1 r
    cases r with
    | scr h1 => exact ⟨_, _, rfl, .inl ⟨s1.sub.seq h1, Pst.okv (a := ns.map D.int) p1 s1 (wk_scr h1)⟩⟩
  | _ => rw [e] at p1; exact p1.elim
theorem rng?_some {most : Int} {ds items : List D} (h : rng? most ds = some items) : (∃ j, ds = [.int j] ∧ -most ≤ j ∧ j < most ∧ items = rngL 0 j) ∨ ∃ i j, ds = [.int i, .int j] ∧ (-most ≤ i ∧ i < most ∧ -most ≤ j ∧ j < most) ∧ items = rngL i j := by
  unfold rng? at h
  split at h
  · rename_i j
    obtain ⟨hc, rfl⟩ := ok?_some h
    have hc : -most ≤ j ∧ j < most := of_decide_eq_true hc
    exact .inl ⟨j, rfl, hc.1, hc.2, rfl⟩
  · rename_i i j
    obtain ⟨hc, rfl⟩ := ok?_some h
    exact .inr ⟨i, j, rfl, of_decide_eq_true hc, rfl⟩
  · cases h
theorem Rps.int1 {w : Wr} {Φ : Hp} {vs : List V} {j : Int} (r : Rps g w Φ vs [.int j]) : vs = [.int j] := by
  cases r with
  | cons h r => cases r; cases h; rfl
theorem Rps.int2 {w : Wr} {Φ : Hp} {vs : List V} {i j : Int} (r : Rps g w Φ vs [.int i, .int j]) : vs = [.int i, .int j] := by
  cases r with
  | cons h r => cases h; rw [Rps.int1 r]
theorem evs_length : ∀ (ms : List E) (ρ : Rho) (S : So) {ds : List D} {ρ1 : Rho} {S1 : So}, evs C ms ρ S = .ok ds ρ1 S1 → ds.length = ms.length
  | [], ρ, S, ds, ρ1, S1, h => by rw [evs] at h; cases h; rfl
  | m :: ms, ρ, S, ds, ρ1, S1, h => by
    rw [evs] at h
    cases e : ev C m ρ S with
    | ok v ρ' S' =>
      rw [e] at h
      have h : ((evs C ms ρ' S').bind fun ds ρ S => Rs.ok (v.d :: ds) ρ S) = .ok ds ρ1 S1 := h
      cases e2 : evs C ms ρ' S' with
      | ok ds' ρ2 S2 =>
        rw [e2] at h
        cases h
        exact congrArg Nat.succ (evs_length ms ρ' S' e2)
      | rs _ _ _ => rw [e2] at h; cases h
      | no => rw [e2] at h; cases h
    | rs _ _ _ => rw [e] at h; cases h
    | no => rw [e] at h; cases h
theorem tI_rng1 {tg a : Expr} {m : E} {p pos : Pos} (hg : Gl X "range") (hm : X.mg "range" = none) (ha : PA X [a] (tA g Wx C [m])) (hs : starEach [a] X.env = [(false, eval a X.env)]) : PI X tg (.Call (.Name "range" p) [a] [] pos) (tI g Wx C .rng [m]) :=
  PI.weak (pi_range1 hg hm ha hs) fun σ H R ⟨Φ, W, ρ, S, s, p⟩ => by
    refine ⟨Φ, W, ρ, S, s, Pst.bind early_RI' p fun ds ρ1 S1 vs Φ1 H1 W1 eq l s1 r p1 => ?_⟩
    have r : Rps g W1.w Φ1 vs ds := r
    have len := evs_length _ _ _ eq
    have p1 : Pst g Wx σ (Own ρ1 σ) Φ1 H1 W1 (RI' g false) (lift (rng? (2 ^ 62) ds) ρ1 S1) R := p1
    cases e : rng? (2 ^ 62) ds with
    | none => rw [e] at p1; exact p1.elim
    | some items =>
      rw [e] at p1
      rcases rng?_some e with ⟨j, rfl, h1, h2, rfl⟩ | ⟨i, j, rfl, h, rfl⟩
      · refine ⟨j, r.int1, h1, h2, Pst.okv (a := rngL 0 j) p1 s1 ?_⟩
        have z : j.toNat = (j - 0).toNat := by rw [Int.sub_zero]
        rw [rngL_eq, z]
        exact wk_rng
      · cases len
theorem tI_rng2 {tg a b : Expr} {m m2 : E} {p pos : Pos} (hg : Gl X "range") (hm : X.mg "range" = none) (ha : PA X [a, b] (tA g Wx C [m, m2])) (hs : starEach [a, b] X.env = [(false, eval a X.env), (false, eval b X.env)]) (hs2 : starEach [b] X.env = [(false, eval b X.env)]) : PI X tg (.Call (.Name "range" p) [a, b] [] pos) (tI g Wx C .rng [m, m2]) :=
  PI.weak (pi_range2 hg hm ha hs hs2) fun σ H R ⟨Φ, W, ρ, S, s, p⟩ => by
    refine ⟨Φ, W, ρ, S, s, Pst.bind early_RI' p fun ds ρ1 S1 vs Φ1 H1 W1 eq l s1 r p1 => ?_⟩
    have r : Rps g W1.w Φ1 vs ds := r
    have len := evs_length _ _ _ eq
    have p1 : Pst g Wx σ (Own ρ1 σ) Φ1 H1 W1 (RI' g false) (lift (rng? (2 ^ 62) ds) ρ1 S1) R := p1
    cases e : rng? (2 ^ 62) ds with
    | none => rw [e] at p1; exact p1.elim
    | some items =>
      rw [e] at p1
      rcases rng?_some e with ⟨j, rfl, h1, h2, rfl⟩ | ⟨i, j, rfl, h, rfl⟩
      · cases len
      · exact ⟨i, j, r.int2, h, Pst.okv (a := rngL i j) p1 s1 wk_rng⟩
/-- a list or a tuple of items, as it stands from now on -/
theorem sq_of {w : Wr} {Φ : Hp} {v : V} {d : D} {xs : List D} (r : Rp g w Φ v d) (h : d.items = some xs) : ∃ t a vs, v = .ref a ∧ (∀ {Φ' H : Hp}, Same Φ Φ' → Same Φ' H → SqB g.K t H a vs) ∧ Rps g w Φ vs xs := by
  cases d with
  | lst ys =>
    cases h
    cases r with
    | lst h1 r1 => exact ⟨false, _, _, rfl, fun e e2 => SqL.of (e2 _ _ (e _ _ h1)), r1⟩
  | tup ys =>
    cases h
    cases r with
    | tup h1 r1 => exact ⟨true, _, _, rfl, fun e e2 => same_seqT e2 (same_seqT e h1.sq), r1⟩
  | _ => cases h
theorem wk_enum {t : Bool} {a : Addr} {vs : List V} {xs : List D} (q : ∀ {Φ H : Hp}, Same Φ0 Φ → Same Φ H → SqB g.K t H a vs) (r : Rps g w0 Φ0 vs xs) : Wk g true w0 Φ0 (IteB g.K t a) (xs.zipIdx.map fun p => .tup [.int (p.2 : Nat), p.1]) := by
  have ix : ∀ {i : Nat} {d : D}, (xs.zipIdx.map fun p => D.tup [.int (p.2 : Nat), p.1])[i]? = some d → ∃ x v, d = .tup [.int (i : Nat), x] ∧ vs[i]? = some v ∧ Rp g w0 Φ0 v x := fun {i d} e => by
    rw [List.getElem?_map, List.getElem?_zipIdx] at e
    cases ex : xs[i]? with
    | none => rw [ex] at e; cases e
    | some x =>
      rw [ex] at e
      obtain ⟨v, hv, rv⟩ := r.get ex
      cases e
      exact ⟨x, v, by simp, hv, rv⟩
  refine Wk.pair (fun Φ H i d e e2 hd => ?_) (fun Φ H H' i d x e e2 hd y => ?_) fun Φ H e e2 => ?_
  · obtain ⟨x, v, rfl, hv, rv⟩ := ix hd
    exact ⟨vs, v, q e e2, hv⟩
  · obtain ⟨x', v, rfl, hv, rv⟩ := ix hd
    obtain ⟨T, u, rfl, hT, rfl, hu⟩ := y
    have hu := hu vs (q e e2)
    rw [hv] at hu
    cases hu
    exact ⟨T, _, _, rfl, hT, rfl, rfl, .cons (.int _) (.cons rv .nil)⟩
  · refine ⟨vs, q e e2, ?_⟩
    rw [List.length_map, List.length_zipIdx, r.length]
    exact Nat.le_refl _
theorem tI_enum {a : Expr} {m : E} {p pos tpos : Pos} {elts : List Expr} {kk : Nat} (hK : X.K = g.K) (hg : Gl X "enumerate") (hm : X.mg "enumerate" = none) (ha : PA X [a] (tA g Wx C [m])) (hs : starEach [a] X.env = [(false, eval a X.env)]) : PI X (.Tuple elts kk tpos) (.Call (.Name "enumerate" p) [a] [] pos) (tI g Wx C .enum [m]) :=
  PI.weak (pi_enumB hg hm ha hs) fun σ H R ⟨Φ, W, ρ, S, s, p⟩ => by
    rw [hK]
    refine ⟨Φ, W, ρ, S, s, Pst.bind early_RI' p fun ds ρ1 S1 vs Φ1 H1 W1 eq l s1 r p1 => ?_⟩
    have r : Rps g W1.w Φ1 vs ds := r
    have len := evs_length _ _ _ eq
    match ds, len, r, p1 with
    | [d], _, .cons hr .nil, p1 =>
      have p1 : Pst g Wx σ (Own ρ1 σ) Φ1 H1 W1 (RI' g true) (lift (d.items.map fun xs => xs.zipIdx.map fun p => D.tup [.int (p.2 : Nat), p.1]) ρ1 S1) R := p1
      cases ei : d.items with
      | none => rw [ei] at p1; exact p1.elim
      | some xs =>
        rw [ei] at p1
        obtain ⟨t, a, vs, rfl, q, r1⟩ := sq_of hr ei
        exact ⟨t, a, vs, rfl, q (Same.refl _) s1.sub, Pst.okv (a := (xs.zipIdx.map fun p => D.tup [.int (p.2 : Nat), p.1])) p1 s1 (wk_enum q r1)⟩
theorem zip_get {vs ws : List V} {xs ys : List D} (r : Rps g w0 Φ0 vs xs) (r2 : Rps g w0 Φ0 ws ys) {i : Nat} {d : D} (e : ((xs.zip ys).map fun p => D.tup [p.1, p.2])[i]? = some d) :
    ∃ x y v u, d = .tup [x, y] ∧ vs[i]? = some v ∧ ws[i]? = some u ∧ Rp g w0 Φ0 v x ∧ Rp g w0 Φ0 u y := by
  rw [List.getElem?_map] at e
  cases ez : (xs.zip ys)[i]? with
  | none => rw [ez] at e; cases e
  | some z =>
    rw [ez] at e
    cases e
    obtain ⟨e1, e2⟩ := List.getElem?_zip_eq_some.mp ez
    obtain ⟨v, hv, rv⟩ := r.get e1
    obtain ⟨u, hu, ru⟩ := r2.get e2
    exact ⟨_, _, v, u, rfl, hv, hu, rv, ru⟩
theorem wk_zip {t u : Bool} {a b : Addr} {vs ws : List V} {xs ys : List D} (q : ∀ {Φ H : Hp}, Same Φ0 Φ → Same Φ H → SqB g.K t H a vs) (q2 : ∀ {Φ H : Hp}, Same Φ0 Φ → Same Φ H → SqB g.K u H b ws) (r : Rps g w0 Φ0 vs xs) (r2 : Rps g w0 Φ0 ws ys) : Wk g true w0 Φ0 (ItzB g.K t u a b) ((xs.zip ys).map fun p => .tup [p.1, p.2]) := by
  refine Wk.pair (fun Φ H i d e e2 hd => ?_) (fun Φ H H' i d x e e2 hd y => ?_) fun Φ H e e2 => ?_
  · obtain ⟨x, y, v, u, rfl, hv, hu, rv, ru⟩ := zip_get r r2 hd
    exact ⟨vs, ws, v, u, q e e2, q2 e e2, hv, hu⟩
  · obtain ⟨x', y', v, u, rfl, hv, hu, rv, ru⟩ := zip_get r r2 hd
    obtain ⟨T, v', u', rfl, hT, rfl, z1, z2⟩ := y
    have z1 := z1 vs (q e e2)
    have z2 := z2 ws (q2 e e2)
    rw [hv] at z1
    rw [hu] at z2
    cases z1
    cases z2
    exact ⟨T, _, _, rfl, hT, rfl, rfl, .cons rv (.cons ru .nil)⟩
  · refine ⟨vs, ws, q e e2, q2 e e2, ?_⟩
    rw [List.length_map, List.length_zip, r.length, r2.length]
theorem tI_zip {a b : Expr} {m m2 : E} {p pos tpos : Pos} {elts : List Expr} {kk : Nat} (hK : X.K = g.K) (hg : Gl X "zip") (hm : X.mg "zip" = none) (ha : PA X [a, b] (tA g Wx C [m, m2])) (hs : starEach [a, b] X.env = (false, eval a X.env) :: starEach [b] X.env) (hpl : (backTo pos (starEach [b] X.env)).any (·.1) = false) :
    PI X (.Tuple elts kk tpos) (.Call (.Name "zip" p) [a, b] [] pos) (tI g Wx C .zip [m, m2]) :=
  PI.weak (pi_zipB hg hm ha hs hpl) fun σ H R ⟨Φ, W, ρ, S, s, p⟩ => by
    rw [hK]
    refine ⟨Φ, W, ρ, S, s, Pst.bind early_RI' p fun ds ρ1 S1 vs Φ1 H1 W1 eq l s1 r p1 => ?_⟩
    have r : Rps g W1.w Φ1 vs ds := r
    have len := evs_length _ _ _ eq
    match ds, len, r, p1 with
    | [d1, d2], _, .cons h1 (.cons h2 .nil), p1 =>
      have p1 : Pst g Wx σ (Own ρ1 σ) Φ1 H1 W1 (RI' g true) (lift (d1.items.bind fun xs => d2.items.map fun ys => (xs.zip ys).map fun p => D.tup [p.1, p.2]) ρ1 S1) R := p1
      cases ei : d1.items with
      | none => rw [ei] at p1; exact p1.elim
      | some xs =>
        rw [ei, Option.bind_some] at p1
        cases ej : d2.items with
        | none => rw [ej] at p1; exact p1.elim
        | some ys =>
          rw [ej] at p1
          obtain ⟨t, a, vs, rfl, q, r1⟩ := sq_of h1 ei
          obtain ⟨u, b, ws, rfl, q2, r2⟩ := sq_of h2 ej
          exact ⟨t, u, a, b, vs, ws, rfl, q (Same.refl _) s1.sub, q2 (Same.refl _) s1.sub, Pst.okv (a := ((xs.zip ys).map fun p => D.tup [p.1, p.2])) p1 s1 (wk_zip q q2 r1 r2)⟩
theorem rev_get {vs : List V} {xs : List D} (r : Rps g w0 Φ0 vs xs) {i : Nat} {v : V} (e : vs.reverse[i]? = some v) : i < vs.length ∧ vs[vs.length - 1 - i]? = some v := by
  have hi : i < vs.length := by
    have := (List.getElem?_eq_some_iff.mp e).1
    rwa [List.length_reverse] at this
  rw [List.getElem?_reverse hi] at e
  exact ⟨hi, e⟩
theorem wk_revL {a : Addr} {vs : List V} {xs : List D} (h : Φ0 a = some (.lst vs)) (r : Rps g w0 Φ0 vs xs) : Wk g false w0 Φ0 (Itv g.K a vs.length) xs.reverse := by
  have q : ∀ {Φ H : Hp}, Same Φ0 Φ → Same Φ H → SqL g.K H a vs := fun e e2 => SqL.of (e2 _ _ (e _ _ h))
  refine Wk.plain r.reverse (fun Φ H i x e e2 hx => ?_) (fun Φ H H' i v x e e2 hv y => ⟨y.1, ?_⟩) fun Φ H e e2 => ?_
  · obtain ⟨h1, h2⟩ := rev_get r hx
    exact ⟨h1, vs, x, q e e2, h2⟩
  · obtain ⟨h1, h2⟩ := rev_get r hv
    have z := y.2 vs (q e e2)
    rw [List.getElem?_reverse h1]
    exact z
  · show vs.length ≤ _
    rw [List.length_reverse]
    exact Nat.le_refl _
theorem wk_revT {a : Addr} {vs : List V} {xs : List D} (h : SqT g.K Φ0 a vs) (r : Rps g w0 Φ0 vs xs) : Wk g false w0 Φ0 (RT.ItvT g.K a vs.length) xs.reverse := by
  have q : ∀ {Φ H : Hp}, Same Φ0 Φ → Same Φ H → SqT g.K H a vs := fun e e2 => same_seqT e2 (same_seqT e h)
  refine Wk.plain r.reverse (fun Φ H i x e e2 hx => ?_) (fun Φ H H' i v x e e2 hv y => ⟨y.1, ?_⟩) fun Φ H e e2 => ?_
  · obtain ⟨h1, h2⟩ := rev_get r hx
    exact ⟨h1, vs, x, q e e2, h2⟩
  · obtain ⟨h1, h2⟩ := rev_get r hv
    have z := y.2 vs (q e e2)
    rw [List.getElem?_reverse h1]
    exact z
  · show vs.length ≤ _
    rw [List.length_reverse]
    exact Nat.le_refl _
theorem tI_rev {tg a : Expr} {m : E} {p pos : Pos} (hK : X.K = g.K) (hg : Gl X "reversed") (hm : X.mg "reversed" = none) (ha : PE X a (tE g Wx C m)) (hs : starEach [a] X.env = (false, eval a X.env) :: starEach [] X.env) : PI X tg (.Call (.Name "reversed" p) [a] [] pos) (tI g Wx C .rev [m]) :=
  PI.weak (RT.pi_revA hg hm ha hs) fun σ H R ⟨Φ, W, ρ, S, s, p⟩ => by
    have p : Pst g Wx σ (Own ρ σ) Φ H W (RI' g false) ((evs C [m] ρ S).bind fun ds ρ S => lift (itD .rev ds) ρ S) R := p
    rw [evs_one, Rs.bind_bind] at p
    rw [hK]
    refine ⟨Φ, W, ρ, S, s, Pst.bindF early_RI' p fun c ρ1 S1 d Φ1 H1 W1 l s1 r p1 => ?_⟩
    have p1 : Pst g Wx σ (Own ρ1 σ) Φ1 H1 W1 (RI' g false) (lift (c.d.items.map (·.reverse)) ρ1 S1) R := p1
    cases e : c.d with
    | lst xs =>
      rw [e] at p1 r
      cases r with
      | lst h1 r1 => exact ⟨_, _, rfl, .inl ⟨SqL.of (s1.sub _ _ h1), Pst.okv (a := xs.reverse) p1 s1 (wk_revL h1 r1)⟩⟩
    | tup xs =>
      rw [e] at p1 r
      cases r with
      | tup h1 r1 => exact ⟨_, _, rfl, .inr ⟨same_seqT s1.sub h1.sq, Pst.okv (a := xs.reverse) p1 s1 (wk_revT h1.sq r1)⟩⟩
    | _ => rw [e] at p1; exact p1.elim
/-! ### loops -/
theorem rpG_of {k : ItK} {t : Tg} {w : Wr} {Φ H : Hp} {v : V} {d : D} (hu : k.u = true → ∃ is, t = .tp is) (h : if k.u then RpU g w Φ H v d else Rp g w Φ v d) : RpG g t w Φ H v d := by
  cases ku : k.u with
  | true =>
    obtain ⟨is, rfl⟩ := hu ku
    rw [ku] at h
    exact h
  | false =>
    rw [ku] at h
    cases t with
    | nm i => exact h
    | tp is => exact .inl h
theorem tS_for {tg iter : Expr} {body : List Stmt} {t : Tg} {k : ItK} {args : List E} {mb : List VI.S} {pos : Pos} (hp : PassesOwn (model X.prog X.w) X.A X.env X.xe) (hc : X.calm = true) (hi : PI X tg iter (tI g Wx C k args)) (hg : PG X tg (gD g t)) (hb : PSs X body (tS g Wx (exs C mb)))
    (hs : ∀ x, foldedSetIterable iter X.env x = pure x) (hu : k.u = true → ∃ is, t = .tp is) : PS X (.For tg iter body [] pos) (tS g Wx (ex C (.for_ t k args mb))) := PS.weak (ps_for hp hc hi hg hb hs) fun D σ H ⟨Φ, W, ρ, S, s, p⟩ => by
  rw [ex] at p
  have e1 : ((evs C args ρ S).st fun ds ρ S => (lift (itD k ds) ρ S).st fun items ρ S => forL t (exs C mb) items ρ S) = ((evs C args ρ S).bind fun ds ρ S => lift (itD k ds) ρ S).st fun items ρ S => forL t (exs C mb) items ρ S := by
    cases evs C args ρ S <;> rfl
  rw [e1] at p
  refine ⟨Φ, W, ρ, S, s, PstS.bind p fun items ρ1 S1 J Φ1 H1 W1 l s1 wk p1 => ?_⟩
  have wk : Wk g k.u W1.w Φ1 J items := wk
  refine ⟨fun i m σ' H' => m = items.length - i ∧ i ≤ items.length ∧ ∃ Φ W ρ S, Same Φ1 Φ ∧ WSub W1.w W.w ∧ Stt g Φ H' W ρ S σ' ∧ PstS g Wx (Own ρ σ') Φ H' W (forL t (exs C mb) (items.drop i) ρ S) D, ⟨items.length, by simp, Nat.zero_le _, Φ1, W1, ρ1, S1, Same.refl _, WSub.refl _, s1, p1.shift l⟩, ?_⟩
  rintro i m σ2 H2 ⟨rfl, hile, Φ2, W2, ρ2, S2, e2, w2, s2, p2⟩
  by_cases hlt : i < items.length
  · right
    have hd : items[i]? = some items[i] := List.getElem?_eq_getElem hlt
    obtain ⟨jgo, jyld⟩ := wk.go Φ2 H2 W2 ρ2 S2 σ2 i _ e2 w2 s2 hd
    rw [List.drop_eq_getElem_cons hlt, forL] at p2
    refine ⟨jgo, fun σ' H' => ∃ Φ W ρ S, Same Φ1 Φ ∧ WSub W1.w W.w ∧ Stt g Φ H' W ρ S σ' ∧ PstS g Wx (Own ρ σ') Φ H' W (forL t (exs C mb) (items.drop (i + 1)) ρ S) D, fun σ' H' n => ⟨items.length - (i + 1), by omega, rfl, hlt, n⟩, fun x H3 y => ?_⟩
    obtain ⟨Φ3, l3, s3, r3⟩ := jyld x H3 y
    have r3 := rpG_of hu r3
    cases et : tgD t items[i] ρ2 with
    | none => rw [et] at p2; exact p2.elim
    | some ρ3 =>
      rw [et] at p2
      have p2 : PstS g Wx (Own ρ2 σ2) Φ2 H2 W2 ((exs C mb ρ3 S2).turn (forL t (exs C mb) (items.drop (i + 1)))) D := p2
      refine ⟨Φ3, W2, ρ2, S2, _, ρ3, s3, r3, et, fun σ4 s4 o4 _ => ⟨Φ3, W2, ρ3, S2, s4, ?_⟩⟩
      have p3 := PstS.shift (l3.toO (O2 := Own ρ3 σ4) fun a z => .inl (o4 a z)) p2
      have e3 : Same Φ1 Φ3 := e2.trans l3.mono
      cases eb : exs C mb ρ3 S2 with
      | nx ρ5 S5 =>
        rw [eb] at p3
        exact fun σ' Φ' H' W' l' s' => ⟨Φ', W', ρ5, S5, e3.trans l'.mono, w2.trans l'.wsub, s', PstS.shift l' p3⟩
      | ct ρ5 S5 =>
        rw [eb] at p3
        exact fun σ' Φ' H' W' l' s' => ⟨Φ', W', ρ5, S5, e3.trans l'.mono, w2.trans l'.wsub, s', PstS.shift l' p3⟩
      | bk ρ5 S5 => rw [eb] at p3; exact p3
      | rt v ρ5 S5 => rw [eb] at p3; exact p3
      | rs x ρ5 S5 => rw [eb] at p3; exact p3
      | no => rw [eb] at p3; exact p3
  · left
    have e : i = items.length := by omega
    subst e
    rw [List.drop_length, forL] at p2
    exact ⟨wk.stop Φ2 H2 e2 s2.sub, p2.nx' s2⟩
theorem tS_while {c : Expr} {body : List Stmt} {mc : E} {mb : List VI.S} {pos : Pos} (hp : PassesOwn (model X.prog X.w) X.A X.env X.xe) (hc : PT X c (tT g Wx C mc)) (hb : PSs X body (tS g Wx (exs C mb))) : PS X (.While c body [] pos) (tS g Wx (ex C (.whl mc mb))) :=
  PS.weak (ps_while hp hc hb) fun D σ H ⟨Φ, W, ρ, S, s, p⟩ => by
    rw [ex] at p
    refine ⟨fun m σ' H' => ∃ Φ W ρ S, Stt g Φ H' W ρ S σ' ∧ PstS g Wx (Own ρ σ') Φ H' W (whlF (fun ρ S => tru (ev C mc ρ S)) (exs C mb) m ρ S) D, ⟨C.fuel, Φ, W, ρ, S, s, p⟩, ?_⟩
    rintro m σ2 H2 ⟨Φ2, W2, ρ2, S2, s2, p2⟩
    cases m with
    | zero => rw [whlF] at p2; exact p2.elim
    | succ m =>
      rw [whlF] at p2
      refine ⟨Φ2, W2, ρ2, S2, s2, PstS.bind p2 fun q ρ3 S3 q' Φ3 H3 W3 l s3 e p3 => ?_⟩
      have e : q' = q := e
      subst e
      have p3 := p3.shift l
      cases q' with
      | false => exact p3.nx' s3
      | true =>
        have p3 : PstS g Wx (Own ρ3 σ2) Φ3 H3 W3 ((exs C mb ρ3 S3).turn (whlF (fun ρ S => tru (ev C mc ρ S)) (exs C mb) m)) D := p3
        refine ⟨fun σ' H' => ∃ Φ W ρ S, Stt g Φ H' W ρ S σ' ∧ PstS g Wx (Own ρ σ') Φ H' W (whlF (fun ρ S => tru (ev C mc ρ S)) (exs C mb) m ρ S) D, fun σ' H' n => ⟨m, Nat.lt_succ_self _, n⟩, Φ3, W3, ρ3, S3, s3, ?_⟩
        cases eb : exs C mb ρ3 S3 with
        | nx ρ5 S5 =>
          rw [eb] at p3
          exact fun σ' Φ' H' W' l' s' => ⟨Φ', W', ρ5, S5, s', PstS.shift l' p3⟩
        | ct ρ5 S5 =>
          rw [eb] at p3
          exact fun σ' Φ' H' W' l' s' => ⟨Φ', W', ρ5, S5, s', PstS.shift l' p3⟩
        | bk ρ5 S5 => rw [eb] at p3; exact p3
        | rt v ρ5 S5 => rw [eb] at p3; exact p3
        | rs x ρ5 S5 => rw [eb] at p3; exact p3
        | no => rw [eb] at p3; exact p3
end
end VI
set_option Elab.async false
set_option linter.all false
set_option maxRecDepth 100000
set_option maxHeartbeats 4000000
/-! VIh: lists that are changed, several values at once, name op= e. -/
namespace VI
open PySem PySem.Spec PyProof.Rows L2
section
variable {g : Gl0} {Wx : WX} {C : Cal} {X : Cx} {σ : L2.St} {O O1 O2 : Addr → Prop} {Φ H Φ1 H1 H0 : Hp} {W W1 : Wd} {ρ ρ1 : Rho} {S S1 : So} {α β γ δ : Type} {D : Ends} {i : Nat} {b : V} {v : Vl}
theorem isOw_get (h : isOw ρ i = true) : ∃ xs, ρ[i]? = some (some (.ow xs)) := by
  unfold isOw at h
  split at h
  · exact ⟨_, by assumption⟩
  · cases h
theorem ow?_get {xs : List VI.D} (h : ow? ρ i = some xs) : ρ[i]? = some (some (.ow xs)) := by
  unfold ow? at h
  split at h
  · cases h; assumption
  · cases h
theorem Stt.owAt {xs : List VI.D} (s : Stt g Φ H W ρ S σ) (h : ρ[i]? = some (some (.ow xs))) : ∃ a vs, σ[i]? = some (some (.ref a)) ∧ H a = some (.lst vs) ∧ Rps g W.w Φ vs xs ∧ Φ a = none ∧ ¬ W.fp a := by
  obtain ⟨x, e, a, vs, rfl, h1, r, h2, h3⟩ := s.slot i _ h
  exact ⟨a, vs, e, h1, r, h2, h3⟩
theorem SrcOk0.other {a : Addr} {o : HO} (q : SrcOk0 W S Φ H) (n : ¬ W.fp a) : SrcOk0 W S Φ (L2.upd H a o) := by
  unfold SrcOk0 at q ⊢
  split <;> simp_all
  rename_i r c s _ _
  obtain ⟨q1, q2, q3, q4⟩ := q
  refine ⟨?_, ?_⟩
  · rw [upd_ne]
    · exact q1
    · rintro rfl; exact n (.inl ⟨_, _, by assumption, .inl rfl⟩)
  · rw [upd_ne]
    · exact q2
    · rintro rfl; exact n (.inl ⟨_, _, by assumption, .inr rfl⟩)
theorem SrcOk.other {a : Addr} {o : HO} (q : SrcOk g W S Φ H) (n : ¬ W.fp a) : SrcOk g W S Φ (L2.upd H a o) :=
  ⟨q.base.other n, q.len, q.nd, fun i b m h1 h2 => by
    obtain ⟨⟨xs, e, r⟩, na⟩ := q.mem i b m h1 h2
    refine ⟨⟨xs, ?_, r⟩, na⟩
    rw [upd_ne]
    · exact e
    · rintro rfl; exact n (.inr (List.mem_of_getElem? h1))⟩
/-- a list that slot i holds alone is changed -/
theorem Stt.mut {xs ys : List VI.D} {ws : List V} {a : Addr} (s : Stt g Φ H W ρ S σ) (h : ρ[i]? = some (some (.ow xs))) (ha : σ[i]? = some (some (.ref a))) (r : Rps g W.w Φ ws ys) :
    Stt g Φ (upd H a (.lst ws)) W (ρ.set i (some (.ow ys))) S σ ∧ LS (Own ρ σ) Φ H W (Own (ρ.set i (some (.ow ys))) σ) Φ (upd H a (.lst ws)) W := by
  obtain ⟨a', vs, e, h1, r1, h2, h3⟩ := s.owAt h
  rw [ha] at e
  cases e
  have hl : i < ρ.length := (List.getElem?_eq_some_iff.mp h).1
  have ow : ∀ {j : Nat} {zs : List VI.D}, (ρ.set i (some (.ow ys)))[j]? = some (some (.ow zs)) → ∃ zs', ρ[j]? = some (some (.ow zs')) := fun {j zs} f => by
    by_cases hj : i = j
    · subst hj; exact ⟨_, h⟩
    · rw [List.getElem?_set_ne hj] at f; exact ⟨_, f⟩
  refine ⟨⟨fun b o q => ?_, s.src.other h3, by rw [List.length_set]; exact s.len, fun j u f => ?_, fun j k us zs p f1 f2 f3 f4 => ?_⟩, ⟨Same.refl _, fun b o q nf no => ?_, fun _ _ _ => rfl, fun _ z => .inl z, WSub.refl _, fun b q => ?_, fun p z => ?_⟩⟩
  · rw [upd_ne]
    · exact s.sub b o q
    · rintro rfl; rw [h2] at q; cases q
  · by_cases hj : i = j
    · subst hj
      rw [List.getElem?_set_self hl] at f
      cases f
      exact ⟨_, ha, a, ws, rfl, upd_same, r, h2, h3⟩
    · rw [List.getElem?_set_ne hj] at f
      obtain ⟨x, e, q⟩ := s.slot j u f
      refine ⟨x, e, ?_⟩
      cases u with
      | fz d => exact q
      | ow us =>
        obtain ⟨p, vs', rfl, z1, z2⟩ := q
        refine ⟨p, vs', rfl, ?_, z2⟩
        rw [upd_ne]
        · exact z1
        · rintro rfl; exact hj (s.apart i j xs us p h f ha e)
  · obtain ⟨us', f1'⟩ := ow f1
    obtain ⟨zs', f2'⟩ := ow f2
    exact s.apart j k us' zs' p f1' f2' f3 f4
  · rw [upd_ne]
    · exact q
    · rintro rfl; exact no ⟨i, xs, h, ha⟩
  · unfold L2.upd
    split
    · exact fun z => nomatch z
    · exact q
  · obtain ⟨j, us, f1, f2⟩ := z
    obtain ⟨us', f1'⟩ := ow f1
    exact .inl ⟨j, us', f1', f2⟩
/-! ### x.append(e), x.extend(e), x[i] = e, x.pop() -/
theorem tS_app {o e : Expr} {m : E} {apos cpos pos : Pos} (hK : X.K = g.K) (ho : PE X o (tVar i)) (he : PE X e (tE g Wx C m)) (hbase : attributeBase o "append" X.env (eval o X.env) = eval o X.env)
    (hfew : ((backTo cpos (starEach [e] X.env)).all (fun x => !x.1) && (backToKw cpos (keywordEach [] X.env)).all (fun x => x.1.isSome) && decide ([e].length + ([] : List Keyword).length + (if ([] : List Keyword).isEmpty then 0 else 1) < 30)) = true)
    (hline : (apos.endLine == cpos.line) = true) (hs : starEach [e] X.env = (false, eval e X.env) :: starEach [] X.env) : PS X (.Expr (.Call (.Attribute o "append" apos) [e] [] cpos) pos) (tS g Wx (ex C (.app i m))) :=
  PS.weak (ps_expr (pe_bm F.plainAttrs_list F.slot_list_append F.type_list_append mt_append ho (pa_cons he pa_nil hs) hbase hfew hline hs rfl) rfl) fun D σ H ⟨Φ, W, ρ, S, s, p⟩ => by
    rw [ex] at p
    split at p
    · rename_i hw
      obtain ⟨xs0, h0⟩ := isOw_get hw
      obtain ⟨a, vs0, ea, ha0, _⟩ := s.owAt h0
      refine ⟨.ref a, ea, .inl ⟨rfl, vs0, SqL.of ha0⟩, Φ, W, ρ, S, s, PstS.bindF p fun c ρ1 S1 d Φ1 H1 W1 l s1 r p1 => ?_⟩
      cases ew : ow? ρ1 i with
      | none => rw [ew] at p1; exact p1.elim
      | some xs =>
        rw [ew] at p1
        have hi := ow?_get ew
        obtain ⟨a', vs, ea', h1, r1, _⟩ := s1.owAt hi
        rw [ea] at ea'
        cases ea'
        have p1 : PstS g Wx (Own ρ1 σ) Φ1 H1 W1 (if xs.length < lim then .nx (ρ1.set i (some (.ow (xs ++ [c.d])))) S1 else .no) D := p1
        split at p1
        · rename_i hz
          obtain ⟨s2, l2⟩ := s1.mut hi ea (r1.append (.cons r .nil))
          exact ⟨a, vs, d, rfl, rfl, h1, by rw [r1.length, ← lim_eq]; exact hz, p1 σ Φ1 _ W1 l2 s2⟩
        · exact p1.elim
    · exact p.elim
theorem tS_ext {o e : Expr} {m : E} {apos cpos pos : Pos} (hK : X.K = g.K) (ho : PE X o (tVar i)) (he : PE X e (tE g Wx C m)) (hbase : attributeBase o "extend" X.env (eval o X.env) = eval o X.env)
    (hfew : ((backTo cpos (starEach [e] X.env)).all (fun x => !x.1) && (backToKw cpos (keywordEach [] X.env)).all (fun x => x.1.isSome) && decide ([e].length + ([] : List Keyword).length + (if ([] : List Keyword).isEmpty then 0 else 1) < 30)) = true)
    (hline : (apos.endLine == cpos.line) = true) (hs : starEach [e] X.env = (false, eval e X.env) :: starEach [] X.env) : PS X (.Expr (.Call (.Attribute o "extend" apos) [e] [] cpos) pos) (tS g Wx (ex C (.ext i m))) :=
  PS.weak (ps_expr (pe_bm F.plainAttrs_list F.slot_list_extend F.type_list_extend mt_extend ho (pa_cons he pa_nil hs) hbase hfew hline hs rfl) rfl) fun D σ H ⟨Φ, W, ρ, S, s, p⟩ => by
    rw [ex] at p
    split at p
    · rename_i hw
      obtain ⟨xs0, h0⟩ := isOw_get hw
      obtain ⟨a, vs0, ea, ha0, _⟩ := s.owAt h0
      refine ⟨.ref a, ea, .inl ⟨rfl, vs0, SqL.of ha0⟩, Φ, W, ρ, S, s, PstS.bindF p fun c ρ1 S1 d Φ1 H1 W1 l s1 r p1 => ?_⟩
      cases ew : ow? ρ1 i with
      | none => rw [ew] at p1; exact p1.elim
      | some xs =>
        rw [ew] at p1
        have hi := ow?_get ew
        obtain ⟨a', vs, ea', h1, r1, _⟩ := s1.owAt hi
        rw [ea] at ea'
        cases ea'
        cases ey : lst? c.d with
        | none =>
          have p1 : PstS g Wx (Own ρ1 σ) Φ1 H1 W1 ((lift (lst? c.d) ρ1 S1).st fun ys ρ S => if xs.length + ys.length ≤ lim then .nx (ρ.set i (some (.ow (xs ++ ys)))) S else .no) D := p1
          rw [ey] at p1; exact p1.elim
        | some ys =>
          have p1 : PstS g Wx (Own ρ1 σ) Φ1 H1 W1 ((lift (lst? c.d) ρ1 S1).st fun ys ρ S => if xs.length + ys.length ≤ lim then .nx (ρ.set i (some (.ow (xs ++ ys)))) S else .no) D := p1
          rw [ey] at p1
          have p1 : PstS g Wx (Own ρ1 σ) Φ1 H1 W1 (if xs.length + ys.length ≤ lim then .nx (ρ1.set i (some (.ow (xs ++ ys)))) S1 else .no) D := p1
          have ed : c.d = .lst ys := by
            unfold lst? at ey
            split at ey
            · cases ey; assumption
            · cases ey
          rw [ed] at r
          cases r with
          | @lst b ws _ hb rb =>
            split at p1
            · rename_i hz
              obtain ⟨s2, l2⟩ := s1.mut hi ea (r1.append rb)
              exact ⟨a, b, vs, ws, rfl, rfl, h1, s1.sub _ _ hb, by rw [r1.length, rb.length, ← lim_eq]; exact hz, p1 σ Φ1 _ W1 l2 s2⟩
            · exact p1.elim
    · exact p.elim
theorem tS_sti {o ix e : Expr} {m ma : E} {p2 pos : Pos} (ho : PE X o (tVar i)) (hi : PE X ix (tE g Wx C ma)) (he : PE X e (tE g Wx C m))
    (hs : swapsWithSole [.Subscript o ix p2] e pos.line X.env = pure false) (hw : swappedStores [.Subscript o ix p2] e X.env = pure none) (h1 : (assignEach [.Subscript o ix p2] X.env).map (·.2) = [assign (.Subscript o ix p2) X.env])
    (hass : ∀ v, assign (.Subscript o ix p2) X.env v = (do
      let ov ← holding [v] (eval o X.env)
      let iv ← holding [v, ov] (eval ix X.env)
      standAt p2
      holding [v, ov, iv] (setItem ov iv v)
      release [v, ov, iv] [])) : PS X (.Assign [.Subscript o ix p2] e pos) (tS g Wx (ex C (.sti i ma m))) :=
  PS.weak (ps_asg he (pg_sub ho hi set_list hass) hs hw h1) fun D σ H ⟨Φ, W, ρ, S, s, p⟩ => by
    rw [ex] at p
    refine ⟨Φ, W, ρ, S, s, PstS.bindF p fun c ρ1 S1 d Φ1 H1 W1 l s1 r p1 => ?_⟩
    have p1 : PstS g Wx (Own ρ1 σ) Φ1 H1 W1 (if isOw ρ1 i then (ev C ma ρ1 S1).st fun j ρ S => (lift (ow? ρ i) ρ S).st fun xs ρ S => (lift (int? j.d) ρ S).st fun j ρ S =>
      (lift (ixN xs.length j) ρ S).st fun j ρ S => .nx (ρ.set i (some (.ow (xs.set j c.d)))) S else .no) D := p1
    split at p1
    · rename_i hw
      obtain ⟨xs0, h0⟩ := isOw_get hw
      obtain ⟨a, vs0, ea, ha0, _⟩ := s1.owAt h0
      refine ⟨.ref a, ea, Φ1, W1, ρ1, S1, s1, PstS.bindF p1 fun j ρ2 S2 jv Φ2 H2 W2 l2 s2 r2 p2 => ?_⟩
      cases ew : ow? ρ2 i with
      | none => rw [ew] at p2; exact p2.elim
      | some xs =>
        rw [ew] at p2
        have hi := ow?_get ew
        obtain ⟨a', vs, ea', h1, r1, _⟩ := s2.owAt hi
        rw [ea] at ea'
        cases ea'
        have p2 : PstS g Wx (Own ρ2 σ) Φ2 H2 W2 ((lift (int? j.d) ρ2 S2).st fun j ρ S => (lift (ixN xs.length j) ρ S).st fun j ρ S => .nx (ρ.set i (some (.ow (xs.set j c.d)))) S) D := p2
        cases ej : j.d with
        | int n =>
          rw [ej] at p2 r2
          cases r2
          have p2 : PstS g Wx (Own ρ2 σ) Φ2 H2 W2 ((lift (ixN xs.length n) ρ2 S2).st fun j ρ S => .nx (ρ.set i (some (.ow (xs.set j c.d)))) S) D := p2
          cases ei : ixN xs.length n with
          | none => rw [ei] at p2; exact p2.elim
          | some k =>
            rw [ei] at p2
            obtain ⟨s3, l3⟩ := s2.mut hi ea (r1.set (r.mono l2.mono l2.wsub) k)
            exact ⟨a, vs, n, k, rfl, rfl, h1, by rw [r1.length]; exact ei, p2 σ Φ2 _ W2 l3 s3⟩
        | _ => rw [ej] at p2; exact p2.elim
    · exact p1.elim
/-! ### name op= e -/
def ipA (op : Bop) : TIp := fun x y H Q => ∃ i j z, x = .int i ∧ y = .int j ∧ augD op (.int i) (.int j) = some (.int z) ∧ Q (.int z) H
def Bop.op : Bop → Operator
  | .add => .Add
  | .sub => .Sub
  | .mul => .Mult
  | .mod => .Mod
  | .fdiv => .FloorDiv
  | .pow => .Pow
theorem mul_ok {i j : Int} (h : decide (i.natAbs < 2 ^ 64 ∨ j.natAbs < 2 ^ 64) = true) : CMul i j := by
  have h := of_decide_eq_true h
  unfold CMul
  rcases h with h | h
  · left; omega
  · right; omega
theorem ip_A (op : Bop) : PIp X op.op (ipA op) := by
  intro pins s σ H x y v u Q I r1 r2 h
  obtain ⟨i, j, z, e1, e2, ez, q⟩ := h
  subst e1; subst e2
  cases op with
  | add =>
    cases ez
    obtain ⟨t, rfl⟩ := r1
    obtain ⟨t', rfl⟩ := r2
    exact PySem.P.iadd_int ⟨.int _, H, I.tok _, ⟨_, rfl⟩, q⟩
  | sub =>
    cases ez
    obtain ⟨t, rfl⟩ := r1
    obtain ⟨t', rfl⟩ := r2
    exact PySem.P.isub_int ⟨.int _, H, I.tok _, ⟨_, rfl⟩, q⟩
  | mul =>
    obtain ⟨hc, ez⟩ := ok?_some ez
    cases ez
    exact iop_mulB pins s σ H _ _ v u Q I r1 r2 ⟨i, j, rfl, rfl, mul_okA (of_decide_eq_true hc), q⟩
  | fdiv =>
    obtain ⟨hc, ez⟩ := ok?_some ez
    cases ez
    exact iop_fdivW pins s σ H _ _ v u Q I r1 r2 ⟨i, j, rfl, rfl, (show divOk j from of_decide_eq_true hc), q⟩
  | mod => cases ez
  | pow => cases ez
theorem augD_int {op : Bop} {x y z : VI.D} (h : augD op x y = some z) : ∃ i j k, x = .int i ∧ y = .int j ∧ z = .int k := by
  cases op <;> cases x <;> first | (cases h; done) | skip
  all_goals cases y <;> first | (cases h; done) | skip
  all_goals first
    | (cases h; exact ⟨_, _, _, rfl, rfl, rfl⟩)
    | (obtain ⟨_, h⟩ := ok?_some h; cases h; exact ⟨_, _, _, rfl, rfl, rfl⟩)
theorem tS_aug {x : Str} {e : Expr} {m : E} {op : Bop} {oo : Operator} {pos' pos : Pos} (hN : X.N.Nodup) (hi : X.N[i]? = some x) (hx : Loc X.env.scope x) (he : PE X e (tE g Wx C m)) (hoo : op.op = oo) (hf : X.fn x = true ∨ X.env.scope.names.lookup x = some .local) :
    PS X (.AugAssign (.Name x pos') oo e pos) (tS g Wx (ex C (.aug i op m))) := by
  subst hoo
  refine PS.weak (ps_aug hN hi hx he (ip_A op) hf) fun D σ H ⟨Φ, W, ρ, S, s, p⟩ => ?_
  rw [ex] at p
  split at p
  · exact p.elim
  · cases e0 : slD? ρ i with
    | none => rw [e0] at p; exact p.elim
    | some d0 =>
      rw [e0] at p
      have e0' := e0
      unfold slD? at e0'
      split at e0'
      · rename_i u hu
        obtain ⟨xv, ex', ok⟩ := s.slot i u hu
        obtain ⟨xw, rfl⟩ : ∃ w, xv = some w := by
          cases u with
          | fz d => obtain ⟨w, rfl, _⟩ := ok; exact ⟨w, rfl⟩
          | ow us => obtain ⟨w, _, rfl, _⟩ := ok; exact ⟨_, rfl⟩
        refine ⟨xw, ex', Φ, W, ρ, S, s, PstS.bindF p fun c ρ1 S1 dv Φ1 H1 W1 l s1 r p1 => ?_⟩
        cases e1 : slD? ρ1 i with
        | none => rw [e1] at p1; exact p1.elim
        | some d1 =>
          rw [e1] at p1
          cases ea : augD op d1 c.d with
          | none => simp only [Option.bind_some, ea] at p1; exact p1.elim
          | some z =>
            simp only [Option.bind_some, ea] at p1
            have p1 : PstS g Wx (Own ρ1 σ) Φ1 H1 W1 (.nx (ρ1.set i (some (.fz z))) S1) D := p1
            obtain ⟨n1, n2, n3, rfl, z2, rfl⟩ := augD_int ea
            have hx : Nw g W1.w Φ1 H1 xw (.int n1) := RO.now (c := .sl i) (H := H1) ex' s1 e1
            obtain rfl := hx.int
            rw [z2] at r ea
            cases r
            obtain ⟨s2, o2⟩ := fz_set (i := i) s1 (Rp.int n3)
            exact ⟨n1, n2, n3, rfl, rfl, ea, p1 _ Φ1 H1 W1 (LS.refl.toO fun a z => .inl (o2 a z)) s2⟩
      · cases e0'
/-! ### several values at once -/
def VOks (g : Gl0) (H0 Φ H : Hp) (W : Wd) : (Addr → Prop) → List V → List Vl → Prop
  | _, [], [] => True
  | O, v :: vs, r :: rs => VOk g H0 v Φ H W O r ∧ VOks g H0 Φ H W (fun a => O a ∨ ∃ xs, r = .ow xs ∧ v = .ref a) vs rs
  | _, _, _ => False
theorem VOk.anti (h : VOk g H0 b Φ H W O v) (hO : ∀ a, O1 a → H0 a ≠ none ∨ O a) (hH : ∀ p, H0 p = none → H1 p = none) : VOk g H1 b Φ H W O1 v := by
  cases v with
  | fz d => exact h
  | ow xs =>
    obtain ⟨p, vs, e1, e2, e3, e4, e5, e6, e7⟩ := h
    exact ⟨p, vs, e1, e2, e3, e4, e5, fun z => (hO p z).elim (fun q => q e7) e6, hH p e7⟩
theorem VOks.anti : ∀ {vs : List V} {rs : List Vl} {O O1 : Addr → Prop}, VOks g H0 Φ H W O vs rs → (∀ a, O1 a → H0 a ≠ none ∨ O a) → (∀ p, H0 p = none → H1 p = none) → VOks g H1 Φ H W O1 vs rs
  | [], [], _, _, _, _, _ => trivial
  | v :: vs, r :: rs, O, O1, ⟨h, t⟩, hO, hH => ⟨h.anti hO hH, VOks.anti t (fun a z => z.elim (fun q => (hO a q).imp id .inl) fun q => .inr (.inr q)) hH⟩
  | [], _ :: _, _, _, h, _, _ => h.elim
  | _ :: _, [], _, _, h, _, _ => h.elim
theorem VOk.later (h : VOk g H0 b Φ H W O v) (l : LS O Φ H W O1 Φ1 H1 W1) : VOk g H0 b Φ1 H1 W1 O1 v := by
  cases v with
  | fz d => exact Rp.mono l.mono l.wsub h
  | ow xs =>
    obtain ⟨p, vs, e1, e2, e3, e4, e5, e6, e7⟩ := h
    have hp : H p ≠ none := by rw [e2]; exact fun z => nomatch z
    exact ⟨p, vs, e1, l.keep p _ e2 e5 e6, e3.mono l.mono l.wsub, (l.frz p hp e6).trans e4, fun z => (l.wfp p z).elim e5 hp, fun z => (l.own p z).elim e6 hp, e7⟩
def RVs (g : Gl0) (σ : L2.St) : Rl (List Vl) (List V) := fun H vs rs Φ' H' W' ρ' => VOks g H Φ' H' W' (Own ρ' σ) vs rs
def tAV (g : Gl0) (Wx : WX) (C : Cal) (ms : List E) : TA := tR g Wx (RVs g) (evV C ms)
theorem Pst.bindU {R : Rl α β} {R' : Rl γ δ} {r : Rs γ} {f : γ → Rho → So → Rs α} {Q : β → Hp → Prop} {Q' : δ → Hp → Prop} (h : Pst g Wx σ O Φ H W R (r.bind f) Q)
    (k : ∀ (c : γ) (ρ1 : Rho) (S1 : So) (d : δ) (Φ1 H1 : Hp) (W1 : Wd), r = .ok c ρ1 S1 → LS O Φ H W (Own ρ1 σ) Φ1 H1 W1 → Stt g Φ1 H1 W1 ρ1 S1 σ → R' H d c Φ1 H1 W1 ρ1 → Pst g Wx σ O Φ H W R (f c ρ1 S1) Q → Q' d H1) : Pst g Wx σ O Φ H W R' r Q' := by
  cases r with
  | ok c ρ1 S1 => exact fun d Φ1 H1 W1 l s q => k c ρ1 S1 d Φ1 H1 W1 rfl l s q h
  | rs x ρ' S' => exact h
  | no => exact h
theorem tAV_nil : PA X [] (tAV g Wx C []) := PA.weak pa_nil fun σ H Q ⟨Φ, W, ρ, S, s, p⟩ => by
  rw [evV] at p
  exact p.okv s trivial
theorem tAV_cons {e : Expr} {es : List Expr} {m : E} {ms : List E} (h : PE X e (tE g Wx C m)) (hs : PA X es (tAV g Wx C ms)) (hst : starEach (e :: es) X.env = (false, eval e X.env) :: starEach es X.env) : PA X (e :: es) (tAV g Wx C (m :: ms)) :=
  PA.weak (pa_cons h hs hst) fun σ H Q ⟨Φ, W, ρ, S, s, p⟩ => by
    rw [evV] at p
    refine ⟨Φ, W, ρ, S, s, Pst.bindU p fun c ρ1 S1 d Φ1 H1 W1 _ l s1 q p1 => ⟨Φ1, W1, ρ1, S1, s1, ?_⟩⟩
    have q : VOk g H d Φ1 H1 W1 (Own ρ1 σ) c := q
    cases e2 : evV C ms ρ1 S1 with
    | ok rs ρ2 S2 =>
      rw [e2] at p1
      intro vs Φ2 H2 W2 l2 s2 q2
      have q2 : VOks g H1 Φ2 H2 W2 (Own ρ2 σ) vs rs := q2
      refine p1 (d :: vs) Φ2 H2 W2 (l.trans l2) s2 ⟨q.later l2, q2.anti (fun a z => ?_) fun _ => l.fresh⟩
      rcases z with z | ⟨xs, rfl, rfl⟩
      · exact .inr z
      · obtain ⟨p, ws, e1, e3, _⟩ := q
        cases e1
        exact .inl (by rw [e3]; exact fun z => nomatch z)
    | rs x ρ2 S2 =>
      rw [e2] at p1
      exact fun c d Φ' H' W' l' s' x' => p1 c d Φ' H' W' (l.trans l') s' x'
    | no => rw [e2] at p1; exact p1
theorem setVs_ok : ∀ (is : List Nat) (rs : List Vl) (vs : List V) {ρ ρ' : Rho} {σ : L2.St} {O : Addr → Prop}, setVs is rs ρ = some ρ' → Stt g Φ1 H1 W1 ρ S σ → VOks g H Φ1 H1 W1 O vs rs → (∀ a, Own ρ σ a → O a) → LS O1 Φ H W (Own ρ σ) Φ1 H1 W1 →
    ∃ σ', List.foldl (fun (s : L2.St) p => s.set p.1 (some p.2)) σ (is.zip vs) = σ' ∧ Stt g Φ1 H1 W1 ρ' S σ' ∧ LS O1 Φ H W (Own ρ' σ') Φ1 H1 W1
  | [], [], [], _, _, σ, _, e, s, _, _, l => by cases e; exact ⟨σ, rfl, s, l⟩
  | i :: is, r :: rs, v :: vs, ρ, ρ', σ, O, e, s, ⟨h, t⟩, hO, l => by
    have h' : VOk g H v Φ1 H1 W1 (Own ρ σ) r := h.anti (fun a z => .inr (hO a z)) fun _ z => z
    exact setVs_ok is rs vs (σ := σ.set i (some v)) e (s.set h') t (fun a z => (own_set s z).imp (hO a) id) (l.set s h')
  | [], [], _ :: _, _, _, _, _, _, _, h, _, _ => h.elim
  | [], _ :: _, _, _, _, _, _, e, _, _, _, _ => by cases e
  | _ :: _, [], _, _, _, _, _, e, _, _, _, _ => by cases e
  | _ :: _, _ :: _, [], _, _, _, _, _, _, h, _, _ => h.elim
theorem VOks.length : ∀ {vs : List V} {rs : List Vl} {O : Addr → Prop}, VOks g H0 Φ H W O vs rs → vs.length = rs.length
  | [], [], _, _ => rfl
  | _ :: _, _ :: _, _, ⟨_, t⟩ => congrArg Nat.succ (VOks.length t)
  | [], _ :: _, _, h => h.elim
  | _ :: _, [], _, h => h.elim
theorem setVs_len : ∀ (is : List Nat) (rs : List Vl) {ρ ρ' : Rho}, setVs is rs ρ = some ρ' → rs.length = is.length
  | [], [], _, _, _ => rfl
  | [], _ :: _, _, _, e => by cases e
  | _ :: _, [], _, _, e => by cases e
  | i :: is, r :: rs, _, _, e => congrArg Nat.succ (setVs_len is rs e)
theorem tS_par2 {x y : Str} {j : Nat} {e1 e2 : Expr} {ms : List E} {px py pt pos : Pos} {kt k2 pt2} (hc : X.calm = true) (hN : X.N.Nodup) (hi : X.N[i]? = some x) (hj : X.N[j]? = some y) (hij : i ≠ j)
    (hx : X.env.scope.names.lookup x = some .local) (hy : X.env.scope.names.lookup y = some .local) (ha : PA X [e1, e2] (tAV g Wx C ms))
    (hw : swappedStores [.Tuple [.Name x px, .Name y py] kt pt] (.Tuple [e1, e2] k2 pt2) X.env = pure (some [x, y])) :
    PS X (.Assign [.Tuple [.Name x px, .Name y py] kt pt] (.Tuple [e1, e2] k2 pt2) pos) (tS g Wx (ex C (.par [i, j] ms))) :=
  PS.weak (ps_par hc hN hi hj hij hx hy ha hw rfl) fun D σ H ⟨Φ, W, ρ, S, s, p⟩ => by
    rw [ex] at p
    refine ⟨Φ, W, ρ, S, s, PstS.bind p fun rs ρ1 S1 vs Φ1 H1 W1 l s1 q p1 => ?_⟩
    have q : VOks g H Φ1 H1 W1 (Own ρ1 σ) vs rs := q
    cases es : setVs [i, j] rs ρ1 with
    | none => rw [es] at p1; exact p1.elim
    | some ρ2 =>
      rw [es] at p1
      obtain ⟨σ', e', s', l'⟩ := setVs_ok [i, j] rs vs es s1 q (fun _ z => z) l
      have len := (q.length).trans (setVs_len _ _ es)
      match vs, len, e' with
      | [v1, v2], _, e' => exact ⟨v1, v2, rfl, by subst e'; exact p1 _ Φ1 H1 W1 l' s'⟩
theorem tS_par3 {x y z : Str} {j k : Nat} {e1 e2 e3 : Expr} {ms : List E} {px py pz pt pos : Pos} {kt k2 pt2} (hc : X.calm = true) (hN : X.N.Nodup) (hi : X.N[i]? = some x) (hj : X.N[j]? = some y) (hk : X.N[k]? = some z) (hij : i ≠ j) (hik : i ≠ k) (hjk : j ≠ k)
    (hx : X.env.scope.names.lookup x = some .local) (hy : X.env.scope.names.lookup y = some .local) (hz : X.env.scope.names.lookup z = some .local) (ha : PA X [e1, e2, e3] (tAV g Wx C ms))
    (hw : swappedStores [.Tuple [.Name x px, .Name y py, .Name z pz] kt pt] (.Tuple [e1, e2, e3] k2 pt2) X.env = pure (some [x, y, z])) :
    PS X (.Assign [.Tuple [.Name x px, .Name y py, .Name z pz] kt pt] (.Tuple [e1, e2, e3] k2 pt2) pos) (tS g Wx (ex C (.par [i, j, k] ms))) :=
  PS.weak (ps_par3 hc hN hi hj hk hij hik hjk hx hy hz ha hw rfl) fun D σ H ⟨Φ, W, ρ, S, s, p⟩ => by
    rw [ex] at p
    refine ⟨Φ, W, ρ, S, s, PstS.bind p fun rs ρ1 S1 vs Φ1 H1 W1 l s1 q p1 => ?_⟩
    have q : VOks g H Φ1 H1 W1 (Own ρ1 σ) vs rs := q
    cases es : setVs [i, j, k] rs ρ1 with
    | none => rw [es] at p1; exact p1.elim
    | some ρ2 =>
      rw [es] at p1
      obtain ⟨σ', e', s', l'⟩ := setVs_ok [i, j, k] rs vs es s1 q (fun _ z => z) l
      have len := (q.length).trans (setVs_len _ _ es)
      match vs, len, e' with
      | [v1, v2, v3], _, e' => exact ⟨v1, v2, v3, rfl, by subst e'; exact p1 _ Φ1 H1 W1 l' s'⟩
/-! ### a tuple of values to a tuple of names, by way of the tuple -/
def gVs (g : Gl0) (is : List Nat) : TGs := fun vs σ H Q => ∃ σ', List.foldl (fun (s : L2.St) p => s.set p.1 (some p.2)) σ (is.zip vs) = σ' ∧ vs.length = is.length ∧ Q σ' H
theorem gVs_nil : PGs X [] (gVs g []) := PGs.weak pgs_nil fun vs σ H Q ⟨σ', e, len, q⟩ => by
  cases vs with
  | nil => cases e; exact ⟨rfl, q⟩
  | cons _ _ => cases len
theorem gVs_cons {x : Str} {pos : Pos} {es : List Expr} {is : List Nat} (hN : X.N.Nodup) (hi : X.N[i]? = some x) (hx : Loc X.env.scope x) (hf : X.fn x = true ∨ X.env.scope.names.lookup x = some .local) (hs : PGs X es (gVs g is))
    (he : (assignEach (.Name x pos :: es) X.env).map (·.2) = assign (.Name x pos) X.env :: (assignEach es X.env).map (·.2)) : PGs X (.Name x pos :: es) (gVs g (i :: is)) :=
  PGs.weak (pgs_cons (pg_name hN hi hx hf) hs he) fun vs σ H Q ⟨σ', e, len, q⟩ => by
    cases vs with
    | nil => cases len
    | cons v vs => exact ⟨v, vs, rfl, σ', e, Nat.succ.inj len, q⟩
theorem tS_parT {ts es : List Expr} {is : List Nat} {ms : List E} {pos pt pt2 : Pos} {kt k2 : Nat} (hK : X.K = g.K) (hc : X.calm = true) (ha : PA X es (tAV g Wx C ms)) (hg : PGs X ts (gVs g is)) (hn : (assignEach ts X.env).length = is.length) (hst : (assignEach ts X.env).findIdx? (·.1) = none)
    (hl : is.length ≤ sizeLine) (hs : swapsWithSole [.Tuple ts kt pt] (.Tuple es k2 pt2) pos.line X.env = pure false) (hw : swappedStores [.Tuple ts kt pt] (.Tuple es k2 pt2) X.env = pure none) :
    PS X (.Assign [.Tuple ts kt pt] (.Tuple es k2 pt2) pos) (tS g Wx (ex C (.par is ms))) :=
  PS.weak (ps_asg (pe_tup ha) (pg_tup hc hg hn hst) hs hw rfl) fun D σ H ⟨Φ, W, ρ, S, s, p⟩ => by
    rw [ex] at p
    refine ⟨Φ, W, ρ, S, s, PstS.bind p fun rs ρ1 S1 vs Φ1 H1 W1 l s1 q p1 => ?_⟩
    have q : VOks g H Φ1 H1 W1 (Own ρ1 σ) vs rs := q
    cases es' : setVs is rs ρ1 with
    | none => rw [es'] at p1; exact p1.elim
    | some ρ2 =>
      rw [es'] at p1
      have len := (q.length).trans (setVs_len _ _ es')
      refine ⟨by rw [len]; exact hl, fun a ha => ⟨a, vs, rfl, SqT.of upd_same, len, ?_⟩⟩
      have l2 : LS (Own ρ1 σ) Φ1 H1 W1 (Own ρ1 σ) Φ1 (L2.upd H1 a (.tup vs)) W1 := LS.new s1 ha
      have q2 : VOks g H Φ1 (L2.upd H1 a (.tup vs)) W1 (Own ρ1 σ) vs rs := by
        have aux : ∀ (vs' : List V) (rs' : List Vl) (O' : Addr → Prop), VOks g H Φ1 H1 W1 O' vs' rs' → VOks g H Φ1 (L2.upd H1 a (.tup vs)) W1 O' vs' rs' := by
          intro vs'
          induction vs' with
          | nil => intro rs' O' h; cases rs' with
            | nil => trivial
            | cons _ _ => exact h.elim
          | cons v vs' ih => intro rs' O' h; cases rs' with
            | nil => exact h.elim
            | cons r rs' =>
              obtain ⟨h, t⟩ := h
              refine ⟨?_, ih rs' _ t⟩
              cases r with
              | fz d => exact h
              | ow xs =>
                obtain ⟨p, ws, z1, z2, z3⟩ := h
                exact ⟨p, ws, z1, (upd_ne (ne_of_none z2 ha)).trans z2, z3⟩
        exact aux vs rs _ q
      obtain ⟨σ', e', s', l'⟩ := setVs_ok is rs vs es' (s1.new ha) q2 (fun _ z => z) (l.trans l2)
      exact ⟨σ', e', len, p1 _ Φ1 _ W1 l' s'⟩
/-- a, b = e, e a tuple -/
theorem tS_unp {tg e : Expr} {t : Tg} {m : E} {pos : Pos} (he : PE X e (tE g Wx C m)) (hg : PG X tg (gD g t)) (hs : swapsWithSole [tg] e pos.line X.env = pure false) (hw : swappedStores [tg] e X.env = pure none)
    (h1 : (assignEach [tg] X.env).map (·.2) = [assign tg X.env]) (hn : ∀ i, t ≠ .nm i) : PS X (.Assign [tg] e pos) (tS g Wx (ex C (.asg t m))) := PS.weak (ps_asg he hg hs hw h1) fun D σ H ⟨Φ, W, ρ, S, s, p⟩ => by
  rw [ex] at p
  refine ⟨Φ, W, ρ, S, s, PstS.bindF p fun c ρ1 S1 d Φ1 H1 W1 l s1 r p1 => ?_⟩
  have e1 : asgV t c ρ1 = tgD t c.d ρ1 := by
    cases t with
    | nm i => exact absurd rfl (hn i)
    | tp is => rfl
  rw [e1] at p1
  cases et : tgD t c.d ρ1 with
  | none => rw [et] at p1; exact p1.elim
  | some ρ2 =>
    rw [et] at p1
    have r : RpG g t W1.w Φ1 H1 d c.d := by
      cases t with
      | nm i => exact r
      | tp is => exact .inl r
    exact ⟨Φ1, W1, ρ1, S1, c.d, ρ2, s1, r, et, fun σ' s' o' _ => p1 σ' Φ1 H1 W1 (LS.refl.toO fun a z => .inl (o' a z)) s'⟩
end
end VI
set_option Elab.async false
set_option linter.all false
set_option maxRecDepth 100000
set_option maxHeartbeats 4000000
/-! VIi: what a def promises; calls. -/
namespace VI
open PySem PySem.Spec PyProof.Rows L2
/-- what a call's end is to be, by what the evaluator says -/
def RcP (g : Gl0) (Φ H : Hp) (W : Wd) (r : Rc) (Q : VK) (E : XK) : Prop := match r with
  | .ok v S' => ∀ (b : V) (Φ' H' : Hp) (W' : Wd), LS Zr Φ H W Zr Φ' H' W' → Same Φ' H' → SrcOk g W' S' Φ' H' → VOk g H b Φ' H' W' Zr v → Q b H'
  | .rs x S' => ∀ (c : Value) (d : Option Addr) (Φ' H' : Hp) (W' : Wd), LS Zr Φ H W Zr Φ' H' W' → Same Φ' H' → SrcOk g W' S' Φ' H' → XOk g Φ' H' W' x c d → E c d H'
  | .no => False
/-- room for a body: for calls of defs, and of classes -/
structure RoomX (k : Nat) (A : Around) : Prop where
  hd : A.handled = none
  dp : A.depth + 3 * k + 7 < recursionLimit
  un : A.units + 16 * k + 210 < cLine
theorem RoomX.r {k : Nat} {A : Around} (r : RoomX k A) : Room k A := ⟨r.hd, by have := r.dp; omega, by have := r.un; omega⟩
theorem RoomX.mk_ {k : Nat} {A : Around} (r : RoomX k A) (C : Addr) (us : List Value) : Room k (A.under (.builtin "type.__call__" ⟨.ref C :: us, []⟩)) :=
  ⟨r.hd, by have := r.dp; rw [make_depth]; omega, by have := r.un; rw [make_units]; omega⟩
theorem deeperX {k : Nat} {A : Around} (r : Room (k + 1) A) (env : Env) : RoomX k (A.deeper env) :=
  ⟨r.hd, by have := r.dp; show A.depth + 1 + 3 * k + 7 < _; omega, by have := r.un; show A.units + 3 + 16 * k + 210 < _; omega⟩
/-- a def's promise: it hands back what r says -/
def spD (g : Gl0) (r : List D → So → Rc) (np : Nat) : Sp := fun vs H Q E => vs.length = np ∧ ∃ Φ W ds S, Same Φ H ∧ SrcOk g W S Φ H ∧ Rps g W.w Φ vs ds ∧ RcP g Φ H W (r ds S) Q E
/-- FnOk with the guards of repr known to be empty -/
structure FnG (P : Program) (w : World) (K : PySem.W.Frag) (mg : Str → Option Value) (base : Heap) (k : Nat) (f : Addr) (fd : FuncData) (ps : List Str) (sp : Sp) : Prop where
  len : ∀ vs H Q E, sp vs H Q E → vs.length = ps.length
  run : ∀ (A : Around) (outer : List Env) (s : Shared) (H : Hp) (args : Args) (us : List Value) (vs : List V) (Q : VK) (E : XK), Room k A → A.guards = some [] → Env0 P w K mg base A outer s H →
    BindsTo s fd args (ps.zip us) → Vals vs us → sp vs H Q E → codeAny (model P w) A (.call (.ref f) args) (CR (L2.CX P w) outer P w H s Q E) s
/-- a def of the text keeps its promise by its body -/
theorem fnG_of {P : Program} {w : World} {K : PySem.W.Frag} {mg : Str → Option Value} {base : Heap} {k : Nat} {f : Addr} {x qual : Str} {params : Arguments} {body : List Stmt} {scope : Scope} {fd : FuncData} {N ps : List Str} {sp : Sp} (F : L2.FunD K x qual params body scope [] [] f fd) (sc : FnScope N ps scope) (len : ∀ vs H Q E, sp vs H Q E → vs.length = ps.length)
    (hbody : ∀ (cdv : Value) (A : Around) (outer : List Env) (s : Shared) (H : Hp) (vs : List V) (Q : VK) (E : XK), RoomX k (A.deeper (envOfC qual scope s.heap.objs.size f cdv)) → A.guards = some [] → sp vs H Q E →
      ∃ t, PSs (cxOf (L2.CX P w) P w K mg base N qual scope f cdv A outer s H E) body t ∧ t { nx := fun _ H' => Q .non H', rt := Q } (start N vs) H) : FnG P w K mg base (k + 1) f fd ps sp := by
  obtain ⟨oc, od, dV, kV, doc, pm, an, cdv, ct, osl, rfl, lk, hcd, _, _⟩ := F.ex
  refine ⟨len, ?_⟩
  intro A outer s H args us vs Q E room hgu e0 bind rv want
  have pl := len _ _ _ _ want
  have still : ∀ b o, base.get? b = some o → s.heap.get? b = some o := fun b o z => (e0.bs b o z).1
  have inK := e0.mod.kin.keeps still
  have kinds : ∀ y ∈ ps.zip us, scope.names.lookup y.1 = some .local ∨ (scope.names.lookup y.1 = some .cell ∧ ((cellsFrom (s.heap.objs.size + 1) scope.names []).lookup y.1).isSome = true) := by
    rintro ⟨n, v⟩ mem
    exact (sc.par n (List.of_mem_zip mem).1).imp id fun z => ⟨z, PySem.W.cellsFrom_some _ _ _ (.inl z)⟩
  refine codeAny_call_function room.depth (inK _ _ lk) rfl sc.co sc.gen rfl (PySem.W.codeRec_of inK hcd) (bind _ _ _ _ ?_)
  refine wpAny_newFunctionEnv_cells sc.kind kinds fun env eenv s1 inn => ?_
  subst eenv
  refine ⟨(e0.mod.nolimit.keeps still).keeps inn.toInCall.keep, codeAny_func ?_⟩
  obtain ⟨t, run, got⟩ := hbody cdv A outer s H vs Q E (deeperX room _) hgu want
  have inv := inv_start (CX := L2.CX P w) (qual := qual) (E := E) sc room.hd e0 pl rv inn
  refine wpAny_mono (run.run [] s1 _ H _ inv got) (fun fl s' z => ?_) fun _ _ z => z
  cases fl with
  | next =>
    obtain ⟨σ', H', J, q⟩ := z
    exact ⟨V.non, H', J.os, J.bare, J.base, J.hok, rfl, q⟩
  | ret u =>
    obtain ⟨v, σ', H', J, ru, q⟩ := z
    exact ⟨v, H', J.os, J.bare, J.base, J.hok, ru, q⟩
  | brk => exact (z.choose_spec.choose_spec.2).elim
  | cont => exact (z.choose_spec.choose_spec.2).elim
theorem FnG.mono {P : Program} {w : World} {K : PySem.W.Frag} {mg : Str → Option Value} {base : Heap} {j k : Nat} {f : Addr} {fd : FuncData} {ps : List Str} {sp : Sp} (F : FnG P w K mg base j f fd ps sp) (h : j ≤ k) : FnG P w K mg base k f fd ps sp :=
  ⟨F.len, fun A outer s H args us vs Q E room => F.run A outer s H args us vs Q E (room.mono h)⟩
section
variable {g : Gl0} {Wx : WX} {C : Cal} {X : Cx} {σ : L2.St} {O O1 O2 : Addr → Prop} {Φ H Φ1 H1 H0 : Hp} {W W1 : Wd} {ρ ρ1 : Rho} {S S1 : So} {i k : Nat} {b : V} {v : Vl} {f : Addr} {fd : FuncData} {ps : List Str} {sp : Sp}
/-! ### calls -/
theorem run_fnG {E : L2.St → XK} {pins : List (Addr × Obj)} {s : Shared} {Q : VK} {us : List Value} {vs : List V} (F : FnG X.prog X.w X.K X.mg X.base k f fd ps sp) (hr : Room k X.A) (hgu : X.A.guards = some []) (hb : Binds X.K fd ps [])
    (hx : PassesAt (L2.CX X.prog X.w) X σ (E σ)) (I : L2.Inv X pins σ H s) (r : Vals vs us) (h : sp vs H Q (E σ)) : wpAny (model X.prog X.w) X.A (call (.ref f) us) (EP X pins σ Q) X.xe s := by
  have ll : us.length = ps.length := r.length.symm.trans (F.len _ _ _ _ h)
  have bb := hb s us I.kIn (by rw [List.append_nil]; exact ll)
  rw [List.append_nil] at bb
  refine wpAny_call (codeAny_mono (F.run X.A X.stack s H ⟨us, []⟩ us vs Q (E σ) hr hgu I.env0 bb r h) fun out s' z => ?_)
  cases out with
  | error e => exact hx pins H s e s' I z
  | ok fl => cases fl <;> first | exact I.after z | exact False.elim z
def tCallG (sp : Sp) (E : L2.St → XK) (t : TA) : TE := fun σ H Q => t σ H fun vs H1 => sp vs H1 Q (E σ)
theorem pe_callG {E : L2.St → XK} {x : Str} {p pos : Pos} {e : Expr} {es : List Expr} {t : TA} (F : FnG X.prog X.w X.K X.mg X.base k f fd ps sp) (hr : Room k X.A) (hgu : X.A.guards = some []) (hb : Binds X.K fd ps []) (hg : Gl X x) (hm : X.mg x = some (.ref f))
    (hk : PySem.W.keepIn X.K (.ref f) = true) (hx : ∀ σ, PassesAt (L2.CX X.prog X.w) X σ (E σ)) (ha : PA X (e :: es) t) (hdb : (x == ("__debug__" : Str)) = false) (he : starEach (e :: es) X.env = (false, eval e X.env) :: starEach es X.env)
    (hpl : (backTo pos (starEach es X.env)).any (·.1) = false) : PE X (.Call (.Name x p) (e :: es) [] pos) (tCallG sp E t) := by
  refine ⟨fun pins s σ H Q I q => wpAny_Call_Name_kw (ld_glob I hg hm ?_ hdb)⟩
  refine PySem.W.callWith_K (h₀ := X.base) I.ok.mod.kin hk (thn (ha.run pos pins s σ H _ I q) fun us s1 ⟨vs, H1, I1, r, q1⟩ => ⟨I1.kIn, ?_⟩) he hpl
  exact run_fnG F hr hgu hb (hx σ) I1 r q1
theorem pe_callG0 {E : L2.St → XK} {x : Str} {p pos : Pos} (F : FnG X.prog X.w X.K X.mg X.base k f fd ps sp) (hr : Room k X.A) (hgu : X.A.guards = some []) (hb : Binds X.K fd ps []) (hg : Gl X x) (hm : X.mg x = some (.ref f))
    (hk : PySem.W.keepIn X.K (.ref f) = true) (hx : ∀ σ, PassesAt (L2.CX X.prog X.w) X σ (E σ)) (hdb : (x == ("__debug__" : Str)) = false) : PE X (.Call (.Name x p) [] [] pos) (tCallG sp E tNil) := by
  refine ⟨fun pins s σ H Q I q => wpAny_Call_Name_kw (ld_glob I hg hm ?_ hdb)⟩
  exact PySem.W.callWith_K0 I.kIn hk (run_fnG (us := []) F hr hgu hb (hx σ) I .nil q)
theorem Stt.after {S' : So} {Φ' H' : Hp} {W' : Wd} (s : Stt g Φ H W ρ S σ) (l : LS Zr Φ H W Zr Φ' H' W') (sub : Same Φ' H') (src : SrcOk g W' S' Φ' H') : Stt g Φ' H' W' ρ S' σ := by
  refine ⟨sub, src, s.len, fun i u e => ?_, s.apart⟩
  obtain ⟨x, ex, ok⟩ := s.slot i u e
  refine ⟨x, ex, ?_⟩
  cases u with
  | fz d =>
    obtain ⟨v, rfl, r⟩ := ok
    exact ⟨v, rfl, r.mono l.mono l.wsub⟩
  | ow xs =>
    obtain ⟨p, vs, rfl, h1, r, h2, h3⟩ := ok
    have hp : H p ≠ none := by rw [h1]; exact fun z => nomatch z
    exact ⟨p, vs, rfl, l.keep p _ h1 h3 (fun z => z), r.mono l.mono l.wsub, (l.frz p hp fun z => z).trans h2, fun z => (l.wfp p z).elim h3 hp⟩
theorem LS.after {Φ' H' : Hp} {W' : Wd} (l : LS Zr Φ H W Zr Φ' H' W') : LS O Φ H W O Φ' H' W' :=
  ⟨l.mono, fun a o h nf _ => l.keep a o h nf fun z => z, fun a h _ => l.frz a h fun z => z, l.wfp, l.wsub, l.live, fun _ z => .inl z⟩
/-- what a callee hands back is what the evaluator says -/
theorem rcp_of {r : Rc} {Q : VK} (s : Stt g Φ H W ρ S σ) (p : Pst g Wx σ (Own ρ σ) Φ H W (RV g σ) (r.rs' ρ) Q) : RcP g Φ H W r Q (WE Wx σ) := by
  cases r with
  | ok v S' =>
    intro b Φ' H' W' l sub src q
    refine p b Φ' H' W' l.after (s.after l sub src) ?_
    cases v with
    | fz d => exact q
    | ow xs =>
      obtain ⟨a, vs, e1, e2, e3, e4, e5, e6, e7⟩ := q
      exact ⟨a, vs, e1, e2, e3, e4, e5, s.nown e7, e7⟩
  | rs x S' => exact fun c d Φ' H' W' l sub src q => p c d Φ' H' W' l.after (s.after l sub src) q
  | no => exact p
theorem tE_call {e : Expr} {n np : Nat} {ms : List E} (hE : PE X e (tCallG (spD g (C.call (.f n)) np) (WE Wx) (tA g Wx C ms))) (hn : ms.length = np) : PE X e (tE g Wx C (.call n ms)) := PE.weak hE fun σ H Q ⟨Φ, W, ρ, S, s, p⟩ => by
  rw [ev] at p
  refine ⟨Φ, W, ρ, S, s, Pst.bind early_RV p fun ds ρ1 S1 vs Φ1 H1 W1 eq l s1 r p1 => ?_⟩
  have r : Rps g W1.w Φ1 vs ds := r
  exact ⟨by rw [r.length, evs_length _ _ _ eq]; exact hn, Φ1, W1, ds, S1, s1.sub, s1.src, r, rcp_of s1 p1⟩
/-! ### a def's body -/
theorem ini_len {n : Nat} {ds : List D} (h : ds.length ≤ n) : (ini n ds).length = n := by
  unfold ini
  rw [List.length_append, List.length_map, List.length_replicate]
  omega
theorem ini_fz {n : Nat} {ds : List D} {xs : List D} : (ini n ds)[i]? ≠ some (some (.ow xs)) := by
  unfold ini
  intro h
  rw [List.getElem?_append] at h
  split at h
  · rw [List.getElem?_map] at h
    cases q : ds[i]? <;> rw [q] at h <;> cases h
  · rw [List.getElem?_replicate] at h
    split at h <;> cases h
theorem ini_get {n : Nat} {ds : List D} {u : Vl} (h : (ini n ds)[i]? = some (some u)) : ∃ d, ds[i]? = some d ∧ u = .fz d := by
  unfold ini at h
  rw [List.getElem?_append] at h
  split at h
  · rw [List.getElem?_map] at h
    cases q : ds[i]? with
    | none => rw [q] at h; cases h
    | some d => rw [q] at h; cases h; exact ⟨d, rfl, rfl⟩
  · rw [List.getElem?_replicate] at h
    split at h <;> cases h
theorem stt_start {N : List Str} {vs : List V} {ds : List D} (sub : Same Φ H) (src : SrcOk g W S Φ H) (r : Rps g W.w Φ vs ds) (h : ds.length ≤ N.length) : Stt g Φ H W (ini N.length ds) S (start N vs) := by
  refine ⟨sub, src, ?_, fun i u e => ?_, fun i j xs ys p e => absurd e ini_fz⟩
  · rw [ini_len h]
    unfold L2.start
    rw [List.length_append, List.length_map, List.length_replicate, r.length]
    omega
  · obtain ⟨d, e1, rfl⟩ := ini_get e
    obtain ⟨v, e2, rv⟩ := r.get e1
    refine ⟨some v, ?_, v, rfl, rv⟩
    unfold L2.start
    rw [List.getElem?_append_left (by rw [List.length_map]; exact (List.getElem?_eq_some_iff.mp e2).1), List.getElem?_map, e2]
    rfl
theorem psts_fin {r : Rst} {Q : VK} {E : XK} {N : List Str} {n : Nat} {vs : List V} {ds : List D} (p : RcP g Φ H W (fin r) Q E) : PstS g (fun c d _ H => E c d H) (Own (ini n ds) (start N vs)) Φ H W r { nx := fun _ H' => Q .non H', rt := Q } := by
  have nown : ∀ a, ¬ Own (ini n ds) (start N vs) a := fun a ⟨i, xs, e, _⟩ => ini_fz e
  have lz : ∀ {O' : Addr → Prop} {Φ' H' : Hp} {W' : Wd}, LS (Own (ini n ds) (start N vs)) Φ H W O' Φ' H' W' → LS Zr Φ H W Zr Φ' H' W' := fun l =>
    ⟨l.mono, fun a o h nf _ => l.keep a o h nf (nown a), fun a h _ => l.frz a h (nown a), l.wfp, l.wsub, l.live, fun _ z => z.elim⟩
  cases r with
  | nx ρ' S' => exact fun σ' Φ' H' W' l s => p .non Φ' H' W' (lz l) s.sub s.src .non
  | rt v ρ' S' =>
    intro b Φ' H' W' l sub src q
    refine p b Φ' H' W' (lz l) sub src ?_
    cases v with
    | fz d => exact q
    | ow xs =>
      obtain ⟨a, ws, e1, e2, e3, e4, e5, e6⟩ := q
      exact ⟨a, ws, e1, e2, e3, e4, e5, fun z => z, e6.elim (fun z => absurd z (nown a)) id⟩
  | rs x ρ' S' => exact fun c d σ' Φ' H' W' l s q => p c d Φ' H' W' (lz l) s.sub s.src q
  | bk _ _ => exact p.elim
  | ct _ _ => exact p.elim
  | no => exact p
/-- THE RULE for a def -/
theorem fnG_def {P : Program} {w : World} {K : PySem.W.Frag} {mg : Str → Option Value} {base : Heap} {x qual : Str} {params : Arguments} {text : List Stmt} {scope : Scope} {N : List Str} {Γ : Tab} {fuel : Nat} {fn : Fn} {body : List VI.S} (F : L2.FunD K x qual params text scope [] [] f fd) (sc : FnScope N ps scope) (hps : ps.length ≤ N.length)
    (hΓ : Γ fn = some (.fd ⟨ps.length, N.length, body⟩))
    (hbody : ∀ (cdv : Value) (A : Around) (outer : List Env) (s : Shared) (H : Hp) (E : XK), RoomX k (A.deeper (envOfC qual scope s.heap.objs.size f cdv)) → A.guards = some [] →
      PSs (cxOf (L2.CX P w) P w K mg base N qual scope f cdv A outer s H E) text (tS g (fun c d _ H => E c d H) (exs ⟨callD Γ fuel k, fuel⟩ body))) :
    FnG P w K mg base (k + 1) f fd ps (spD g (callD Γ fuel (k + 1) fn) ps.length) := by
  refine fnG_of F sc (fun vs H Q E h => h.1) fun cdv A outer s H vs Q E room hgu want => ⟨_, hbody cdv A outer s H E room hgu, ?_⟩
  obtain ⟨hl, Φ, W, ds, S, sub, src, r, p⟩ := want
  have hl2 : ds.length = ps.length := r.length.symm.trans hl
  rw [callD, hΓ] at p
  have p : RcP g Φ H W (if ds.length = ps.length then fin (exs ⟨callD Γ fuel k, fuel⟩ body (ini N.length ds) S) else .no) Q E := p
  rw [if_pos hl2] at p
  exact ⟨Φ, W, _, S, stt_start sub src r (by rw [hl2]; exact hps), psts_fin p⟩
end
end VI
set_option Elab.async false
set_option linter.all false
set_option maxRecDepth 100000
set_option maxHeartbeats 4000000
/-! VIj: list comprehensions. -/
namespace VI
open PySem PySem.Spec PyProof.Rows L2
/-- no exception leaves a block -/
def WF : WX := fun _ _ _ _ => False
section
variable {g : Gl0} {Wx : WX} {C : Cal} {X : Cx} {σ : L2.St} {O O1 O2 : Addr → Prop} {Φ H Φ1 H1 H0 : Hp} {W W1 : Wd} {ρ ρ1 : Rho} {S S1 : So} {i k : Nat} {b : V} {v : Vl}
theorem wipeR_len : ∀ (own : List Nat) (ρ : Rho), (wipeR ρ own).length = ρ.length
  | [], _ => rfl
  | v :: vs, ρ => by unfold wipeR; rw [List.length_set, wipeR_len vs]
theorem wipeR_out : ∀ (own : List Nat) (ρ : Rho), i ∉ own → (wipeR ρ own)[i]? = ρ[i]?
  | [], _, _ => rfl
  | v :: vs, ρ, h => by
    simp only [List.mem_cons, not_or] at h
    unfold wipeR
    rw [List.getElem?_set_ne (fun z => h.1 z.symm), wipeR_out vs ρ h.2]
theorem wipeR_some {u : Vl} : ∀ (own : List Nat) (ρ : Rho), (wipeR ρ own)[i]? = some (some u) → ρ[i]? = some (some u) ∧ i ∉ own
  | [], _, h => ⟨h, by simp⟩
  | v :: vs, ρ, h => by
    unfold wipeR at h
    by_cases hi : v = i
    · subst hi
      by_cases hv : v < (wipeR ρ vs).length
      · rw [List.getElem?_set_self hv] at h; cases h
      · rw [List.getElem?_eq_none (by simpa using hv)] at h; cases h
    · rw [List.getElem?_set_ne hi] at h
      obtain ⟨h1, h2⟩ := wipeR_some vs ρ h
      exact ⟨h1, by simp only [List.mem_cons, not_or]; exact ⟨fun e => hi e.symm, h2⟩⟩
theorem wipe_out : ∀ (own : List Nat) (σ : L2.St), i ∉ own → (wipe σ own)[i]? = σ[i]?
  | [], _, _ => rfl
  | v :: vs, σ, h => by
    simp only [List.mem_cons, not_or] at h
    unfold wipe
    rw [List.getElem?_set_ne (fun z => h.1 z.symm), wipe_out vs σ h.2]
theorem own_wipe {own : List Nat} {a : Addr} (h : Own (wipeR ρ own) (wipe σ own) a) : Own ρ σ a := by
  obtain ⟨j, xs, e1, e2⟩ := h
  exact ⟨j, xs, (wipeR_some own ρ e1).1, (wipe_some e2).1⟩
theorem Stt.wipe (s : Stt g Φ H W ρ S σ) (own : List Nat) : Stt g Φ H W (wipeR ρ own) S (wipe σ own) := by
  refine ⟨s.sub, s.src, by rw [wipeR_len, wipe_length]; exact s.len, fun i u e => ?_, fun i j xs ys p e1 e2 e3 e4 => ?_⟩
  · obtain ⟨e1, e2⟩ := wipeR_some own ρ e
    obtain ⟨x, f, ok⟩ := s.slot i u e1
    exact ⟨x, by rw [wipe_out own σ e2]; exact f, ok⟩
  · exact s.apart i j xs ys p (wipeR_some own ρ e1).1 (wipeR_some own ρ e2).1 (wipe_some e3).1 (wipe_some e4).1
theorem wipe_idem (own : List Nat) (σ : L2.St) : wipe (wipe σ own) own = wipe σ own := by
  refine List.ext_getElem? fun j => ?_
  by_cases hj : j ∈ own
  · have none_of : ∀ σ' : L2.St, (wipe σ' own)[j]? = if j < σ'.length then some none else none := fun σ' => by
      cases q : (wipe σ' own)[j]? with
      | none =>
        rw [List.getElem?_eq_none_iff, wipe_length] at q
        rw [if_neg (by omega)]
      | some x =>
        have hl := (List.getElem?_eq_some_iff.mp q).1
        rw [wipe_length] at hl
        rw [if_pos hl]
        cases x with
        | none => rfl
        | some x => exact absurd hj (wipe_some q).2
    rw [none_of, none_of, wipe_length]
  · rw [wipe_out own _ hj]
theorem backR_in (ρ0 : Rho) : ∀ (own : List Nat) (ρ' : Rho), ρ0.length = ρ'.length → i ∈ own → (backR ρ0 ρ' own)[i]? = ρ0[i]?
  | v :: vs, ρ', hl, h => by
    have len : ∀ vs : List Nat, (backR ρ0 ρ' vs).length = ρ'.length := fun vs => by
      induction vs with
      | nil => rfl
      | cons u us ih => unfold backR; rw [List.length_set, ih]
    unfold backR
    by_cases hi : v = i
    · subst hi
      by_cases hv : v < ρ0.length
      · rw [List.getElem?_set_self (by rw [len, ← hl]; exact hv), List.getElem?_eq_getElem hv, List.getD_eq_getElem?_getD, List.getElem?_eq_getElem hv]
        rfl
      · rw [List.getElem?_eq_none (by rw [List.length_set, len, ← hl]; omega), List.getElem?_eq_none (by omega)]
    · rw [List.getElem?_set_ne hi]
      exact backR_in ρ0 vs ρ' hl ((List.mem_cons.mp h).resolve_left fun z => hi z.symm)
theorem backR_out (ρ0 : Rho) : ∀ (own : List Nat) (ρ' : Rho), i ∉ own → (backR ρ0 ρ' own)[i]? = ρ'[i]?
  | [], _, _ => rfl
  | v :: vs, ρ', h => by
    simp only [List.mem_cons, not_or] at h
    unfold backR
    rw [List.getElem?_set_ne (fun z => h.1 z.symm), backR_out ρ0 vs ρ' h.2]
theorem backR_len (ρ0 : Rho) : ∀ (own : List Nat) (ρ' : Rho), (backR ρ0 ρ' own).length = ρ'.length
  | [], _ => rfl
  | v :: vs, ρ' => by unfold backR; rw [List.length_set, backR_len ρ0 vs]
/-- behind the block: the block's own names stand as ahead of it -/
theorem Stt.back {own : List Nat} {ρ' : Rho} {S' : So} {Φ' H' : Hp} {W' : Wd} (s : Stt g Φ H W ρ S σ) (l : LS (Own (wipeR ρ own) (L2.wipe σ own)) Φ H W (Own ρ' (L2.wipe σ own)) Φ' H' W') (s' : Stt g Φ' H' W' ρ' S' (L2.wipe σ own)) :
    Stt g Φ' H' W' (backR ρ ρ' own) S' σ ∧ LS (Own ρ σ) Φ H W (Own (backR ρ ρ' own) σ) Φ' H' W' := by
  have hl : ρ.length = ρ'.length := by rw [s.len, s'.len, wipe_length]
  have inn : ∀ {j : Nat} {u : Vl}, j ∈ own → (backR ρ ρ' own)[j]? = some (some u) → ρ[j]? = some (some u) := fun hj e => by rwa [backR_in ρ own ρ' hl hj] at e
  have out : ∀ {j : Nat} {u : Vl}, j ∉ own → (backR ρ ρ' own)[j]? = some (some u) → ρ'[j]? = some (some u) := fun hj e => by rwa [backR_out ρ own ρ' hj] at e
  have kept : ∀ {j : Nat} {xs : List D} {a : Addr}, j ∈ own → ρ[j]? = some (some (.ow xs)) → σ[j]? = some (some (.ref a)) → ¬ Own (wipeR ρ own) (L2.wipe σ own) a := fun {j xs a} hj e1 e2 ⟨m, ys, f1, f2⟩ => by
    obtain ⟨f1, hm⟩ := wipeR_some own ρ f1
    have f2 := (wipe_some f2).1
    exact hm (s.apart j m xs ys a e1 f1 e2 f2 ▸ hj)
  have cross : ∀ {j m : Nat} {xs ys : List D} {a : Addr}, j ∈ own → m ∉ own → ρ[j]? = some (some (.ow xs)) → σ[j]? = some (some (.ref a)) → ρ'[m]? = some (some (.ow ys)) → σ[m]? = some (some (.ref a)) → False := fun {j m xs ys a} hj hm e1 e2 e3 e4 => by
    have own' : Own ρ' (L2.wipe σ own) a := ⟨m, ys, e3, by rw [wipe_out own σ hm]; exact e4⟩
    rcases l.own a own' with z | z
    · exact kept hj e1 e2 z
    · obtain ⟨a', vs, e5, h5, _⟩ := s.owAt e1
      rw [e2] at e5; cases e5
      rw [h5] at z; cases z
  refine ⟨⟨s'.sub, s'.src, by rw [backR_len, ← hl]; exact s.len, fun j u e => ?_, fun j m xs ys a e1 e2 e3 e4 => ?_⟩, ⟨l.mono, fun a o h nf no => l.keep a o h nf fun z => no (own_wipe z), fun a h no => l.frz a h fun z => no (own_wipe z), l.wfp, l.wsub, l.live, fun a z => ?_⟩⟩
  · by_cases hj : j ∈ own
    · have e := inn hj e
      obtain ⟨x, f, ok⟩ := s.slot j u e
      refine ⟨x, f, ?_⟩
      cases u with
      | fz d =>
        obtain ⟨v, rfl, r⟩ := ok
        exact ⟨v, rfl, r.mono l.mono l.wsub⟩
      | ow xs =>
        obtain ⟨a, vs, rfl, h1, r, h2, h3⟩ := ok
        have hp : H a ≠ none := by rw [h1]; exact fun z => nomatch z
        have no := kept hj e f
        exact ⟨a, vs, rfl, l.keep a _ h1 h3 no, r.mono l.mono l.wsub, (l.frz a hp no).trans h2, fun z => (l.wfp a z).elim h3 hp⟩
    · obtain ⟨x, f, ok⟩ := s'.slot j u (out hj e)
      rw [wipe_out own σ hj] at f
      exact ⟨x, f, ok⟩
  · by_cases hj : j ∈ own
    · by_cases hm : m ∈ own
      · exact s.apart j m xs ys a (inn hj e1) (inn hm e2) e3 e4
      · exact (cross hj hm (inn hj e1) e3 (out hm e2) e4).elim
    · by_cases hm : m ∈ own
      · exact (cross hm hj (inn hm e2) e4 (out hj e1) e3).elim
      · exact s'.apart j m xs ys a (out hj e1) (out hm e2) (by rw [wipe_out own σ hj]; exact e3) (by rw [wipe_out own σ hm]; exact e4)
  · obtain ⟨j, xs, e1, e2⟩ := z
    by_cases hj : j ∈ own
    · exact .inl ⟨j, xs, inn hj e1, e2⟩
    · exact (l.own a ⟨j, xs, out hj e1, by rw [wipe_out own σ hj]; exact e2⟩).imp own_wipe id
/-- what nobody knows is changed -/
theorem Stt.beside {a : Addr} {o : HO} (s : Stt g Φ H W ρ S σ) (h1 : Φ a = none) (h2 : ¬ W.fp a) (h3 : ¬ Own ρ σ a) : Stt g Φ (upd H a o) W ρ S σ := by
  refine ⟨fun b u q => ?_, s.src.other h2, s.len, fun i u e => ?_, s.apart⟩
  · rw [upd_ne]
    · exact s.sub b u q
    · rintro rfl; rw [h1] at q; cases q
  · obtain ⟨x, f, ok⟩ := s.slot i u e
    refine ⟨x, f, ?_⟩
    cases u with
    | fz d => exact ok
    | ow xs =>
      obtain ⟨p, vs, rfl, z1, z2⟩ := ok
      refine ⟨p, vs, rfl, ?_, z2⟩
      rw [upd_ne]
      · exact z1
      · rintro rfl; exact h3 ⟨i, xs, e, f⟩
theorem LS.beside {a : Addr} {o : HO} (l : LS O Φ H W O1 Φ1 H1 W1) (h : H a = none) : LS O Φ H W O1 Φ1 (upd H1 a o) W1 :=
  ⟨l.mono, fun b u q nf no => (upd_ne (ne_of_none q h)).trans (l.keep b u q nf no), l.frz, l.wfp, l.wsub, fun b q => by
    unfold L2.upd
    split
    · exact fun z => nomatch z
    · exact l.live b q, l.own⟩
theorem backR_wipe (ρ0 : Rho) (own : List Nat) (ρ' : Rho) (h : ρ0.length = ρ'.length) : backR ρ0 (wipeR ρ' own) own = backR ρ0 ρ' own := by
  refine List.ext_getElem? fun j => ?_
  by_cases hj : j ∈ own
  · rw [backR_in ρ0 own _ (by rw [wipeR_len]; exact h) hj, backR_in ρ0 own _ h hj]
  · rw [backR_out ρ0 own _ hj, backR_out ρ0 own _ hj, wipeR_out own _ hj]
/-! ### [elt for target in iter if ..] -/
/-- a turn -/
def trn (C : Cal) (t : Tg) (mc me : E) : D → Rho → So → Rs (Option D) := fun x ρ S => (lift (tgD t x ρ) ρ S).bind fun ρ1 _ S => (tru (ev C mc ρ1 S)).bind fun q ρ S => if q then (ev C me ρ S).bind fun v ρ S => .ok (some v.d) ρ S else .ok none ρ S
/-- behind some turns -/
def CInv (g : Gl0) (Wx : WX) (C : Cal) (σ : L2.St) (ow : List Nat) (Φ1 H1 : Hp) (W1 : Wd) (ρ1 : Rho) (A : Addr) (Q : VK) (t : Tg) (mc me : E) (rest : List D) (H' : Hp) : Prop :=
  ∃ Φ' W' ρ' S' acc vs, LS (Own (wipeR ρ1 ow) (wipe σ ow)) Φ1 H1 W1 (Own (wipeR ρ' ow) (wipe σ ow)) Φ' H' W' ∧ Stt g Φ' H' W' (wipeR ρ' ow) S' (wipe σ ow) ∧
    H' A = some (.lst vs) ∧ Rps g W'.w Φ' vs acc ∧ Φ' A = none ∧ ¬ W'.fp A ∧ ¬ Own (wipeR ρ' ow) (wipe σ ow) A ∧
    Pst g Wx σ (Own ρ1 σ) Φ1 H1 W1 (RV g σ) ((cmpl (trn C t mc me) ow rest acc ρ' S').bind fun acc ρ' S => .ok (.ow acc) (backR ρ1 ρ' ow) S) Q
theorem comp_turn {ow : List Nat} {A : Addr} {Q : VK} {t : Tg} {mc me : E} {x : D} {rest : List D} {H2 H3 Φ3 : Hp} (hin : ∀ i ∈ t.ixs, i ∈ ow) (hA : H1 A = none) {xv : V}
    {Φ2 : Hp} {W2 : Wd} {ρ2 : Rho} {S2 : So} {acc : List D} {vs : List V} (l2 : LS (Own (wipeR ρ1 ow) (wipe σ ow)) Φ1 H1 W1 (Own (wipeR ρ2 ow) (wipe σ ow)) Φ2 H2 W2) (hA2 : H2 A = some (.lst vs)) (racc : Rps g W2.w Φ2 vs acc) (pA2 : Φ2 A = none) (fA2 : ¬ W2.fp A)
    (nA2 : ¬ Own (wipeR ρ2 ow) (wipe σ ow) A) (p2 : Pst g Wx σ (Own ρ1 σ) Φ1 H1 W1 (RV g σ) ((cmpl (trn C t mc me) ow (x :: rest) acc ρ2 S2).bind fun acc ρ' S => .ok (.ow acc) (backR ρ1 ρ' ow) S) Q)
    (l3 : LS (Own (wipeR ρ2 ow) (wipe σ ow)) Φ2 H2 W2 (Own (wipeR ρ2 ow) (wipe σ ow)) Φ3 H3 W2) (s3 : Stt g Φ3 H3 W2 (wipeR ρ2 ow) S2 (wipe σ ow)) (r3 : RpG g t W2.w Φ3 H3 xv x) :
    gD g t xv (wipe σ ow) H3 fun σ2 H2 => wipe σ2 ow = wipe σ ow ∧ tT g WF C mc σ2 H2 fun b H3 =>
      if b = true then tE g WF C me σ2 H3 fun y H4 => ∃ acc, H4 A = some (.lst acc) ∧ acc.length < sizeLine ∧ CInv g Wx C σ ow Φ1 H1 W1 ρ1 A Q t mc me rest (upd H4 A (.lst (acc ++ [y]))) else CInv g Wx C σ ow Φ1 H1 W1 ρ1 A Q t mc me rest H3 := by
  rw [cmpl] at p2
  cases et : tgD t x (wipeR ρ2 ow) with
  | none =>
    have e : trn C t mc me x (wipeR ρ2 ow) S2 = .no := by unfold trn; rw [et]; rfl
    rw [e] at p2
    exact p2.elim
  | some ρ3 =>
    have e : trn C t mc me x (wipeR ρ2 ow) S2 = (tru (ev C mc ρ3 S2)).bind fun q ρ S => if q then (ev C me ρ S).bind fun v ρ S => .ok (some v.d) ρ S else .ok none ρ S := by unfold trn; rw [et]; rfl
    rw [e] at p2
    refine ⟨Φ3, W2, _, S2, x, ρ3, s3, r3, et, fun σ4 s4 o4 w4 => ?_⟩
    have e4 : wipe σ4 ow = wipe σ ow := by rw [w4 ow hin, wipe_idem]
    refine ⟨e4, Φ3, W2, ρ3, S2, s4, ?_⟩
    have l4 : LS (Own (wipeR ρ2 ow) (wipe σ ow)) Φ2 H2 W2 (Own ρ3 σ4) Φ3 H3 W2 := l3.toO fun a z => .inl (o4 a z)
    have hA2' : H2 A ≠ none := by rw [hA2]; exact fun z => nomatch z
    cases hc : tru (ev C mc ρ3 S2) with
    | rs _ _ _ => rw [hc] at p2; exact p2.elim
    | no => rw [hc] at p2; exact p2.elim
    | ok q ρ5 S5 =>
      rw [hc] at p2
      show Pst g WF σ4 (Own ρ3 σ4) Φ3 H3 W2 RB (tru (ev C mc ρ3 S2)) _
      rw [hc]
      intro b Φ5 H5 W5 l5 s5 eb
      have eb : b = q := eb
      subst eb
      have l6 := l4.trans l5
      cases b with
      | false =>
        rw [if_neg Bool.false_ne_true]
        have s6 := s5.wipe ow
        rw [e4] at s6
        refine ⟨Φ5, W5, ρ5, S5, acc, vs, l2.trans (l6.toO fun a z => .inl ?_), s6, l6.keep A _ hA2 fA2 nA2, racc.mono l6.mono l6.wsub, (l6.frz A hA2' nA2).trans pA2, fun z => (l6.wfp A z).elim fA2 hA2', fun z => (l6.own A ?_).elim nA2 hA2', p2⟩
        · rw [← e4] at z; exact own_wipe z
        · rw [← e4] at z; exact own_wipe z
      | true =>
        rw [if_pos rfl]
        refine ⟨Φ5, W5, ρ5, S5, s5, ?_⟩
        cases he : ev C me ρ5 S5 with
        | rs _ _ _ =>
          have p2 : Pst g Wx σ (Own ρ1 σ) Φ1 H1 W1 (RV g σ) ((match (ev C me ρ5 S5).bind fun v ρ S => Rs.ok (some v.d) ρ S with
            | .ok none ρ S => cmpl (trn C t mc me) ow rest acc ρ S
            | .ok (some d) ρ S => if acc.length < lim then cmpl (trn C t mc me) ow rest (acc ++ [d]) ρ S else .no
            | _ => .no).bind fun acc ρ' S => .ok (.ow acc) (backR ρ1 ρ' ow) S) Q := p2
          rw [he] at p2; exact p2.elim
        | no =>
          have p2 : Pst g Wx σ (Own ρ1 σ) Φ1 H1 W1 (RV g σ) ((match (ev C me ρ5 S5).bind fun v ρ S => Rs.ok (some v.d) ρ S with
            | .ok none ρ S => cmpl (trn C t mc me) ow rest acc ρ S
            | .ok (some d) ρ S => if acc.length < lim then cmpl (trn C t mc me) ow rest (acc ++ [d]) ρ S else .no
            | _ => .no).bind fun acc ρ' S => .ok (.ow acc) (backR ρ1 ρ' ow) S) Q := p2
          rw [he] at p2; exact p2.elim
        | ok v ρ7 S7 =>
          have p2 : Pst g Wx σ (Own ρ1 σ) Φ1 H1 W1 (RV g σ) ((match (ev C me ρ5 S5).bind fun v ρ S => Rs.ok (some v.d) ρ S with
            | .ok none ρ S => cmpl (trn C t mc me) ow rest acc ρ S
            | .ok (some d) ρ S => if acc.length < lim then cmpl (trn C t mc me) ow rest (acc ++ [d]) ρ S else .no
            | _ => .no).bind fun acc ρ' S => .ok (.ow acc) (backR ρ1 ρ' ow) S) Q := p2
          rw [he] at p2
          have p2 : Pst g Wx σ (Own ρ1 σ) Φ1 H1 W1 (RV g σ) ((if acc.length < lim then cmpl (trn C t mc me) ow rest (acc ++ [v.d]) ρ7 S7 else .no).bind fun acc ρ' S => .ok (.ow acc) (backR ρ1 ρ' ow) S) Q := p2
          intro d Φ7 H7 W7 l7 s7 q7
          obtain ⟨Φ8, _, l8, s8, r8⟩ := told l7 s7 q7
          have l9 := l6.trans l8
          split at p2
          · rename_i hz
            have s9 := s8.wipe ow
            rw [e4] at s9
            have nA : ¬ Own (wipeR ρ7 ow) (wipe σ ow) A := fun z => (l9.own A (by rw [← e4] at z; exact own_wipe z)).elim nA2 hA2'
            have pA : Φ8 A = none := (l9.frz A hA2' nA2).trans pA2
            have fA : ¬ W7.fp A := fun z => (l9.wfp A z).elim fA2 hA2'
            refine ⟨vs, l9.keep A _ hA2 fA2 nA2, by rw [racc.length, ← lim_eq]; exact hz, Φ8, W7, ρ7, S7, acc ++ [v.d], vs ++ [d], LS.beside (l2.trans (l9.toO fun a z => .inl ?_)) hA, s9.beside pA fA nA, upd_same, (racc.mono l9.mono l9.wsub).append (.cons r8 .nil), pA, fA, nA, p2⟩
            rw [← e4] at z; exact own_wipe z
          · exact p2.elim
theorem comp_end {ow : List Nat} {A : Addr} {Q : VK} {t : Tg} {mc me : E} {H2 : Hp} (s1 : Stt g Φ1 H1 W1 ρ1 S1 σ) (hA : H1 A = none) {Φ2 : Hp} {W2 : Wd} {ρ2 : Rho} {S2 : So} {acc : List D} {vs : List V}
    (l2 : LS (Own (wipeR ρ1 ow) (wipe σ ow)) Φ1 H1 W1 (Own (wipeR ρ2 ow) (wipe σ ow)) Φ2 H2 W2) (s2 : Stt g Φ2 H2 W2 (wipeR ρ2 ow) S2 (wipe σ ow)) (hA2 : H2 A = some (.lst vs)) (racc : Rps g W2.w Φ2 vs acc) (pA2 : Φ2 A = none) (fA2 : ¬ W2.fp A)
    (nA2 : ¬ Own (wipeR ρ2 ow) (wipe σ ow) A) (p2 : Pst g Wx σ (Own ρ1 σ) Φ1 H1 W1 (RV g σ) ((cmpl (trn C t mc me) ow [] acc ρ2 S2).bind fun acc ρ' S => .ok (.ow acc) (backR ρ1 ρ' ow) S) Q) : Q (.ref A) H2 := by
  rw [cmpl] at p2
  obtain ⟨s3, l3⟩ := s1.back (own := ow) l2 s2
  have hl : ρ1.length = ρ2.length := by
    have a := s2.len
    rw [wipeR_len, wipe_length] at a
    rw [s1.len, a]
  rw [backR_wipe ρ1 ow ρ2 hl] at s3 l3
  refine p2 (.ref A) Φ2 H2 W2 l3 s3 ⟨A, vs, rfl, hA2, racc, pA2, fA2, ?_, hA⟩
  rintro ⟨j, xs, e1, e2⟩
  by_cases hj : j ∈ ow
  · rw [backR_in ρ1 ow ρ2 hl hj] at e1
    exact s1.nown hA ⟨j, xs, e1, e2⟩
  · rw [backR_out ρ1 ow ρ2 hj] at e1
    exact nA2 ⟨j, xs, by rw [wipeR_out ow ρ2 hj]; exact e1, by rw [wipe_out ow σ hj]; exact e2⟩
theorem tLc_of {t : Tg} {k : ItK} {args : List E} {mc me : E} (ow : List Nat) (hin : ∀ i ∈ t.ixs, i ∈ ow) (hu : k.u = true → ∃ is, t = .tp is) : ∀ σ H Q, tE g Wx C (.comp me t k args mc ow) σ H Q → tLc (tI g Wx C k args) (gD g t) (tT g WF C mc) (tE g WF C me) ow σ H Q := by
  rintro σ H Q ⟨Φ, W, ρ, S, s, p⟩
  rw [ev] at p
  have e0 : ((evs C args ρ S).bind fun ds ρ S => (lift (itD k ds) ρ S).bind fun items ρ S => (cmpl (fun x ρ S => (lift (tgD t x ρ) ρ S).bind fun ρ1 _ S => (tru (ev C mc ρ1 S)).bind fun q ρ S =>
          if q then (ev C me ρ S).bind fun v ρ S => .ok (some v.d) ρ S else .ok none ρ S) ow items [] ρ S).bind fun acc ρ' S => Rs.ok (Vl.ow acc) (backR ρ ρ' ow) S) =
      ((evs C args ρ S).bind fun ds ρ S => lift (itD k ds) ρ S).bind fun items ρ S => (cmpl (trn C t mc me) ow items [] ρ S).bind fun acc ρ' S => Rs.ok (Vl.ow acc) (backR ρ ρ' ow) S := by rw [Rs.bind_bind]; rfl
  rw [e0] at p
  refine ⟨Φ, W, ρ, S, s, Pst.bind early_RV p fun items ρ1 S1 J Φ1 H1 W1 _ l s1 wk p1 => ?_⟩
  have wk : Wk g k.u W1.w Φ1 J items := wk
  intro A hA
  have pA : Φ1 A = none := s1.phi hA
  have fA : ¬ W1.fp A := s1.nfp hA
  have sw := s1.wipe ow
  refine ⟨fun i m H' => m = items.length - i ∧ i ≤ items.length ∧ CInv g Wx C σ ow Φ1 H1 W1 ρ1 A Q t mc me (items.drop i) H', ⟨items.length, by simp, Nat.zero_le _, Φ1, W1, ρ1, S1, [], [], LS.beside LS.refl hA, sw.beside pA fA (sw.nown hA), upd_same, .nil, pA, fA, sw.nown hA, p1⟩, ?_⟩
  rintro i m H2 ⟨rfl, hile, Φ2, W2, ρ2, S2, acc, vs, l2, s2, hA2, racc, pA2, fA2, nA2, p2⟩
  by_cases hlt : i < items.length
  · right
    have hd : items[i]? = some items[i] := List.getElem?_eq_getElem hlt
    obtain ⟨jgo, jyld⟩ := wk.go Φ2 H2 W2 _ S2 _ i _ l2.mono l2.wsub s2 hd
    rw [List.drop_eq_getElem_cons hlt] at p2
    refine ⟨jgo, CInv g Wx C σ ow Φ1 H1 W1 ρ1 A Q t mc me (items.drop (i + 1)), fun H' n => ⟨items.length - (i + 1), by omega, rfl, hlt, n⟩, fun x H3 y => ?_⟩
    obtain ⟨Φ3, l3, s3, r3⟩ := jyld x H3 y
    exact comp_turn hin hA l2 hA2 racc pA2 fA2 nA2 p2 l3 s3 (rpG_of hu r3)
  · left
    have e : i = items.length := by omega
    subst e
    rw [List.drop_length] at p2
    exact ⟨wk.stop Φ2 H2 l2.mono s2.sub, comp_end s1 hA l2 s2 hA2 racc pA2 fA2 nA2 p2⟩
theorem tE_comp {elt tg iter : Expr} {ifs : List Expr} {scope : Scope} {own : List (Str × Nat)} {pos : Pos} {t : Tg} {k : ItK} {args : List E} {mc me : E} (hc : X.calm = true) (hN : X.N.Nodup) (hi : PI X tg iter (tI g Wx C k args)) (ok : BlkOk X.N X.env.scope scope own)
    (hg : ∀ (s : Shared) (H : Hp) (Cc : Addr) (cl : List (Str × Addr)) (fp : List Addr), PG (X.blk s H scope (compEnvC scope cl Cc X.env) fp) tg (gD g t)) (ht : ∀ (s : Shared) (H : Hp) (Cc : Addr) (cl : List (Str × Addr)) (fp : List Addr), PTs (X.blk s H scope (compEnvC scope cl Cc X.env) fp) ifs (tT g WF C mc))
    (he : ∀ (s : Shared) (H : Hp) (Cc : Addr) (cl : List (Str × Addr)) (fp : List Addr), PE (X.blk s H scope (compEnvC scope cl Cc X.env) fp) elt (tE g WF C me)) (hs : ∀ x, foldedSetIterable iter X.env x = pure x) (hin : ∀ i ∈ t.ixs, i ∈ own.map (·.2)) (hu : k.u = true → ∃ is, t = .tp is) :
    PE X (.ListComp elt [⟨tg, iter, ifs, 0⟩] scope pos) (tE g Wx C (.comp me t k args mc (own.map (·.2)))) := PE.weak (pe_lc hc hN hi ok hg ht he hs) (tLc_of _ hin hu)
theorem tS_setLc {i : Nat} {y : Str} {py : Pos} {elt tg iter : Expr} {ifs : List Expr} {scope : Scope} {own : List (Str × Nat)} {pos spos : Pos} {t : Tg} {k : ItK} {args : List E} {mc me : E} (hc : X.calm = true) (hN : X.N.Nodup) (hy : X.N[i]? = some y) (hyl : X.env.scope.names.lookup y = some .local)
    (hsw : swapsWith (.ListComp elt [⟨tg, iter, ifs, 0⟩] scope pos) (some (.Name y py)) spos.line X.env = pure true) (hi : PI X tg iter (tI g Wx C k args)) (ok : BlkOk X.N X.env.scope scope own)
    (hg : ∀ (s : Shared) (H : Hp) (Cc : Addr) (cl : List (Str × Addr)) (fp : List Addr), PG (X.blk s H scope (compEnvC scope cl Cc X.env) fp) tg (gD g t)) (ht : ∀ (s : Shared) (H : Hp) (Cc : Addr) (cl : List (Str × Addr)) (fp : List Addr), PTs (X.blk s H scope (compEnvC scope cl Cc X.env) fp) ifs (tT g WF C mc))
    (he : ∀ (s : Shared) (H : Hp) (Cc : Addr) (cl : List (Str × Addr)) (fp : List Addr), PE (X.blk s H scope (compEnvC scope cl Cc X.env) fp) elt (tE g WF C me)) (hs : ∀ x, foldedSetIterable iter X.env x = pure x) (hin : ∀ i ∈ t.ixs, i ∈ own.map (·.2)) (hu : k.u = true → ∃ is, t = .tp is) :
    PS X (.Assign [.Name y py] (.ListComp elt [⟨tg, iter, ifs, 0⟩] scope pos) spos) (tS g Wx (ex C (.asg (.nm i) (.comp me t k args mc (own.map (·.2)))))) := PS.weak (ps_setLc hc hN hy hyl hsw hi ok hg ht he hs) fun D σ H ⟨Φ, W, ρ, S, s, p⟩ => by
  rw [ex] at p
  refine tLc_of _ hin hu σ H _ ⟨Φ, W, ρ, S, s, ?_⟩
  exact PstS.bind p fun c ρ1 S1 d Φ1 H1 W1 l s1 q p1 => p1 _ Φ1 H1 W1 (l.set s1 q) (s1.set q)
theorem tT_yes : PTs X [] (tT g Wx C (.bl true)) := ⟨fun pins s σ H Q I q => (pts_nil (X := X)).run pins s σ H Q I (by
  obtain ⟨Φ, W, ρ, S, st, p⟩ := q
  have e : tru (ev C (.bl true) ρ S) = .ok true ρ S := by rw [ev]; rfl
  have p : Pst g Wx σ (Own ρ σ) Φ H W RB (tru (ev C (.bl true) ρ S)) Q := p
  rw [e] at p
  exact p.okv st rfl)⟩
end
end VI
set_option Elab.async false
set_option linter.all false
set_option maxRecDepth 100000
set_option maxHeartbeats 4000000
/-! VIk: pop, index, min, max, isinstance, tuple(range(..)). -/
namespace VI
open PySem PySem.Spec PyProof.Rows L2
section
variable {g : Gl0} {Wx : WX} {C : Cal} {X : Cx} {σ : L2.St} {O O1 O2 : Addr → Prop} {Φ H Φ1 H1 H0 : Hp} {W W1 : Wd} {ρ ρ1 : Rho} {S S1 : So} {i k : Nat} {b : V} {v : Vl}
/-! ### x.pop() -/
theorem tE_pop0 {o : Expr} {apos cpos : Pos} (ho : PE X o (tVar i)) (hbase : attributeBase o "pop" X.env (eval o X.env) = eval o X.env) (hline : (apos.endLine == cpos.line) = true) : PE X (.Call (.Attribute o "pop" apos) [] [] cpos) (tE g Wx C (.pop0 i)) :=
  PE.weak (pe_bm0 F.plainAttrs_list F.slot_list_pop F.type_list_pop mt_pop ho hbase hline) fun σ H Q ⟨Φ, W, ρ, S, s, p⟩ => by
    rw [ev] at p
    cases ew : ow? ρ i with
    | none => rw [ew] at p; exact p.elim
    | some xs =>
      rw [ew] at p
      have hi := ow?_get ew
      obtain ⟨a, vs, ea, h1, r1, _⟩ := s.owAt hi
      have p : Pst g Wx σ (Own ρ σ) Φ H W (RV g σ) ((lift (xs[xs.length - 1]?) ρ S).bind fun d ρ S => .ok (.fz d) (ρ.set i (some (.ow xs.dropLast))) S) Q := p
      cases ed : xs[xs.length - 1]? with
      | none => rw [ed] at p; exact p.elim
      | some d =>
        rw [ed] at p
        obtain ⟨v, hv, rv⟩ := r1.get ed
        have rd : Rps g W.w Φ vs.dropLast xs.dropLast := by
          rw [List.dropLast_eq_take, List.dropLast_eq_take, r1.length]
          exact r1.take _
        obtain ⟨s2, l2⟩ := s.mut hi ea rd
        exact ⟨.ref a, ea, .inl ⟨rfl, vs, SqL.of h1⟩, a, vs, v, rfl, rfl, h1, by rw [r1.length]; exact hv, p v Φ _ W l2 s2 rv⟩
def rPopN : V → List V → Hp → VK → Prop := fun x vs H Q => ∃ l xs i k y, x = .ref l ∧ vs = [.int i] ∧ H l = some (.lst xs) ∧ ixN xs.length i = some k ∧ xs[k]? = some y ∧ Q y (upd H l (.lst (xs.eraseIdx k)))
theorem mt_popN : MtM X "list.pop" rPopN := by
  intro pins s σ H x vs v us Q I rx rv h
  obtain ⟨l, xs, i, k, y, e1, e2, hH, hk, hy, q⟩ := h
  have z := (I.lstM hH).1
  rw [sizeLine_eq] at z
  obtain ⟨n1, n2, n3, n4⟩ := ixN_seq hk
  exact mt_popAt pins s σ H x vs v us Q I rx rv ⟨l, xs, i, k, y, e1, e2, hH, by omega, by omega, n1, hy, q⟩
theorem pop_bm {e : Expr} {m : E} : ∀ (σ : L2.St) (H : Hp) (Q : VK), tE g Wx C (.pop i m) σ H Q → tBM X.K "list" rPopN (tVar i) (tCons (tE g Wx C m) tNil) σ H Q := fun σ H Q ⟨Φ, W, ρ, S, s, p⟩ => by
    rw [ev] at p
    split at p
    · rename_i hw
      obtain ⟨xs0, h0⟩ := isOw_get hw
      obtain ⟨a, vs0, ea, ha0, _⟩ := s.owAt h0
      refine ⟨.ref a, ea, .inl ⟨rfl, vs0, SqL.of ha0⟩, Φ, W, ρ, S, s, Pst.bindF early_RV p fun c ρ1 S1 d Φ1 H1 W1 l s1 r p1 => ?_⟩
      cases ew : ow? ρ1 i with
      | none => rw [ew] at p1; exact p1.elim
      | some xs =>
        rw [ew] at p1
        have hi := ow?_get ew
        obtain ⟨a', vs, ea', h1, r1, _⟩ := s1.owAt hi
        rw [ea] at ea'
        cases ea'
        have p1 : Pst g Wx σ (Own ρ1 σ) Φ1 H1 W1 (RV g σ) ((lift (int? c.d) ρ1 S1).bind fun j ρ S => (lift (ixN xs.length j) ρ S).bind fun j ρ S => (lift (xs[j]?) ρ S).bind fun d ρ S => .ok (.fz d) (ρ.set i (some (.ow (xs.eraseIdx j)))) S) Q := p1
        cases ed : c.d with
        | int n =>
          rw [ed] at p1 r
          cases r
          have p1 : Pst g Wx σ (Own ρ1 σ) Φ1 H1 W1 (RV g σ) ((lift (ixN xs.length n) ρ1 S1).bind fun j ρ S => (lift (xs[j]?) ρ S).bind fun d ρ S => .ok (.fz d) (ρ.set i (some (.ow (xs.eraseIdx j)))) S) Q := p1
          cases ei : ixN xs.length n with
          | none => rw [ei] at p1; exact p1.elim
          | some k =>
            rw [ei] at p1
            have p1 : Pst g Wx σ (Own ρ1 σ) Φ1 H1 W1 (RV g σ) ((lift (xs[k]?) ρ1 S1).bind fun d ρ S => .ok (.fz d) (ρ.set i (some (.ow (xs.eraseIdx k)))) S) Q := p1
            cases ek : xs[k]? with
            | none => rw [ek] at p1; exact p1.elim
            | some d =>
              rw [ek] at p1
              obtain ⟨v, hv, rv⟩ := r1.get ek
              obtain ⟨s2, l2⟩ := s1.mut hi ea (r1.eraseIdx k)
              exact ⟨a, vs, n, k, v, rfl, rfl, h1, by rw [r1.length]; exact ei, hv, p1 v Φ1 _ W1 l2 s2 rv⟩
        | _ => rw [ed] at p1; exact p1.elim
    · exact p.elim
theorem tE_pop {o e : Expr} {m : E} {apos cpos : Pos} (ho : PE X o (tVar i)) (he : PE X e (tE g Wx C m)) (hbase : attributeBase o "pop" X.env (eval o X.env) = eval o X.env)
    (hfew : ((backTo cpos (starEach [e] X.env)).all (fun x => !x.1) && (backToKw cpos (keywordEach [] X.env)).all (fun x => x.1.isSome) && decide ([e].length + ([] : List Keyword).length + (if ([] : List Keyword).isEmpty then 0 else 1) < 30)) = true)
    (hline : (apos.endLine == cpos.line) = true) (hs : starEach [e] X.env = (false, eval e X.env) :: starEach [] X.env) : PE X (.Call (.Attribute o "pop" apos) [e] [] cpos) (tE g Wx C (.pop i m)) :=
  PE.weak (pe_bm F.plainAttrs_list F.slot_list_pop F.type_list_pop mt_popN ho (pa_cons he pa_nil hs) hbase hfew hline hs rfl) (pop_bm (e := e))
/-- (x if c else y).pop(e) -/
theorem tE_popIf {c a b e : Expr} {mc m : E} {j : Nat} {ipos apos cpos : Pos} (hc : PT X c (tT g Wx C mc)) (ha : PE X a (tVar i)) (hb : PE X b (tVar j)) (he : PE X e (tE g Wx C m)) (hbase : attributeBase (.IfExp c a b ipos) "pop" X.env (eval (.IfExp c a b ipos) X.env) = eval (.IfExp c a b ipos) X.env)
    (hfew : ((backTo cpos (starEach [e] X.env)).all (fun x => !x.1) && (backToKw cpos (keywordEach [] X.env)).all (fun x => x.1.isSome) && decide ([e].length + ([] : List Keyword).length + (if ([] : List Keyword).isEmpty then 0 else 1) < 30)) = true)
    (hline : (apos.endLine == cpos.line) = true) (hs : starEach [e] X.env = (false, eval e X.env) :: starEach [] X.env) : PE X (.Call (.Attribute (.IfExp c a b ipos) "pop" apos) [e] [] cpos) (tE g Wx C (.ife mc (.pop i m) (.pop j m))) :=
  PE.weak (pe_bm F.plainAttrs_list F.slot_list_pop F.type_list_pop mt_popN (pe_ifExp hc ha hb) (pa_cons he pa_nil hs) hbase hfew hline hs rfl) fun σ H Q ⟨Φ, W, ρ, S, s, p⟩ => by
    rw [ev] at p
    refine ⟨Φ, W, ρ, S, s, Pst.bind early_RV p fun q ρ1 S1 q' Φ1 H1 W1 _ l s1 r p1 => ?_⟩
    have r : q' = q := r
    subst r
    cases q' with
    | true => exact pop_bm (e := e) σ H1 Q ⟨Φ1, W1, ρ1, S1, s1, p1⟩
    | false => exact pop_bm (e := e) σ H1 Q ⟨Φ1, W1, ρ1, S1, s1, p1⟩
/-! ### x.index(y) -/
theorem Pst.monoQ {α β : Type} {R : Rl α β} {r : Rs α} {Q Q' : β → Hp → Prop} (h : Pst g Wx σ O Φ H W R r Q) (hq : ∀ b H, Q b H → Q' b H) : Pst g Wx σ O Φ H W R r Q' := by
  cases r with
  | ok a ρ' S' => exact fun b Φ' H' W' l s q => hq _ _ (h b Φ' H' W' l s q)
  | rs x ρ' S' => exact h
  | no => exact h
theorem tCons_mono {m : E} {Q Q' : List V → Hp → Prop} (h : tCons (tE g Wx C m) tNil σ H Q) (hq : ∀ b H, Q b H → Q' b H) : tCons (tE g Wx C m) tNil σ H Q' := by
  obtain ⟨Φ, W, ρ, S, s, p⟩ := h
  exact ⟨Φ, W, ρ, S, s, p.monoQ fun _ _ z => hq _ _ z⟩
/-- t.index(y), t a tuple that carries no dict -/
def rIndexT (K : PySem.W.Frag) : V → List V → Hp → VK → Prop := fun x xs H Q => ∃ (a : Addr) (y : V) (vs : List V) (d : PyData) (ds : List PyData) (j : Nat) (z : PyData), x = V.ref a ∧ xs = [y] ∧ SqT K H a vs ∧ DpAll K H vs ds ∧ Dp K H y d ∧
  PyData.canLayAll0 ds = true ∧ SeqAt.shaped d = true ∧ ds[j]? = some z ∧ PyData.eqv z d = true ∧ (∀ (m : Nat) (z' : PyData), m < j → ds[m]? = some z' → PyData.eqv z' d = false) ∧ Q (.int (j : Nat)) H
theorem mt_indexT (hu : X.A.units + 65 < cLine) : MtR X "tuple.index" (rIndexT X.K) := by
  intro pins s σ H x xs v us Q I rx rxs h
  obtain ⟨a, y, vs, d, ds, j, z, rfl, rfl, hs, ha, hy, lays, sd, hz, hzj, hno, q⟩ := h
  obtain rfl : v = Value.ref a := rx
  obtain ⟨uy, rfl, ry⟩ := vals1 rxs
  obtain ⟨bs, r1⟩ := Dp.reads I d y uy hy ry
  obtain ⟨its, rv, pl, hlen⟩ := I.tuple hs
  obtain ⟨⟨cls, dd, data, sls⟩, ho, hc, n, hdt⟩ := pl
  simp only at hc hdt
  subst hc hdt
  obtain ⟨as, h4⟩ := Dp.readsAll I ds _ its ha rv
  have hn : its.length = ds.length := SeqAt.ReadsAll.length ds its as h4
  have hmap := SeqAt.readsAll_map ds its as lays h4
  have hvl := rv.length
  have hsl := sizeLine_eq
  have jd := (List.getElem?_eq_some_iff.mp hz).1
  have jl : j < its.length := by omega
  have read : ∀ (m : Nat) (hm : m < its.toArray.size) (w : PyData), ds[m]? = some w → SeqAt.readOf s.heap its.toArray[m] = w := by
    intro m hm w hw
    have ml : m < its.length := by simpa using hm
    rw [← hmap, List.getElem?_map, List.getElem?_eq_getElem ml] at hw
    simpa using hw
  refine call_meets PySem.F.slot_tuple_index ⟨_, ho, rfl⟩ PySem.F.entry_tuple_index (PySem.F.args_tuple_index_2 _ _)
    (TI.tuple_indexAt a its.toArray n dd sls uy (fun u => PyData.eqv (SeqAt.readOf s.heap u) d) j (by simpa using jl) ?_ ?_) ⟨ho, SeqAt.items_eqAt (vs := its.toArray) (show ReadsAll s.heap its.toArray.toList ds as from h4) r1 lays (SeqAt.canLay_of_shaped sd) (room_in_shaped sd hu), ⟨.int (j : Nat), H, I.tok _, ⟨_, rfl⟩, q⟩⟩
  · have e := read j (by simpa using jl) z hz
    show PyData.eqv (SeqAt.readOf s.heap its.toArray[j]) d = true
    rw [e]
    exact hzj
  · intro m hm hmj
    have e := read m hm _ (List.getElem?_eq_getElem (by omega))
    show PyData.eqv (SeqAt.readOf s.heap its.toArray[m]) d = false
    rw [e]
    exact hno m _ hmj (List.getElem?_eq_getElem (by omega))
/-- x.index(y) by the kind of x -/
def tIdx (K : PySem.W.Frag) (to : TE) (t : TA) : TE := fun σ H Q => to σ H fun x H1 => (∃ a vs, x = .ref a ∧ H1 a = some (.lst vs) ∧ t σ H1 fun xs H2 => rIndexD K x xs H2 Q) ∨ (∃ a vs, x = .ref a ∧ TqT K H1 a vs ∧ t σ H1 fun xs H2 => rIndexT K x xs H2 Q)
theorem pe_idx {o e : Expr} {to : TE} {t : TA} {apos cpos : Pos} (hu : X.A.units + 65 < cLine) (ho : PE X o to) (ha : PA X [e] t) (hbase : attributeBase o "index" X.env (eval o X.env) = eval o X.env)
    (hfew : ((backTo cpos (starEach [e] X.env)).all (fun x => !x.1) && (backToKw cpos (keywordEach [] X.env)).all (fun x => x.1.isSome) && decide ([e].length + ([] : List Keyword).length + (if ([] : List Keyword).isEmpty then 0 else 1) < 30)) = true)
    (hline : (apos.endLine == cpos.line) = true) (hs : starEach [e] X.env = (false, eval e X.env) :: starEach [] X.env) : PE X (.Call (.Attribute o "index" apos) [e] [] cpos) (tIdx X.K to t) := by
  refine ⟨fun pins s σ H Q I h => ?_⟩
  refine wpAny_Call_method_late hbase hfew hline rfl (thn (ho.run pins s σ H _ I h) fun v s1 ⟨x, H1, I1, r1, q1⟩ => ?_)
  rcases q1 with ⟨a, vs, rfl, hl, q1⟩ | ⟨a, vs, rfl, ht, q1⟩
  · obtain rfl : v = Value.ref a := r1
    obtain ⟨_, its, n, _, _, ea⟩ := I1.lstM hl
    refine ⟨"list", _, F.plainAttrs_list, F.slot_list_index, F.type_list_index, ⟨_, ea, rfl⟩, fun b e => by cases e; exact ⟨_, ea, rfl⟩, ?_⟩
    have hA := ha.run cpos pins s1 σ H1 _ I1 q1
    rw [hs] at hA ⊢
    exact Calls.callWith_builtin rfl (Calls.evalArgs_plain (thn hA fun us s2 ⟨ws, H2, I2, r2, q2⟩ => mt_indexD hu pins s2 σ H2 (.ref a) ws (.ref a) us Q I2 rfl r2 q2))
  · obtain rfl : v = Value.ref a := r1
    obtain ⟨its, _, ⟨o1, eo, ec, _⟩, _⟩ := I1.tuple ht.sq
    have hd : o1.dict = none := by
      rcases ht with ⟨_, ⟨ob, rfl, hd⟩, e⟩ | ⟨o2, _, _, h1, _, _, _, _, hd⟩
      · have z := (I1.hok a _ e).1
        rw [eo] at z; cases z; exact hd
      · have z := I1.kIn a _ h1
        rw [eo] at z; cases z; exact hd
    refine ⟨"tuple", _, F.plainAttrs_tuple, F.slot_tuple_index, F.type_tuple_index, ⟨_, eo, ec⟩, fun b e => by cases e; exact ⟨_, eo, hd⟩, ?_⟩
    have hA := ha.run cpos pins s1 σ H1 _ I1 q1
    rw [hs] at hA ⊢
    exact Calls.callWith_builtin rfl (Calls.evalArgs_plain (thn hA fun us s2 ⟨ws, H2, I2, r2, q2⟩ => mt_indexT hu pins s2 σ H2 (.ref a) ws (.ref a) us Q I2 rfl r2 q2))
theorem find_py {y : D} : ∀ (xs : List D) {j : Nat}, (xs.findIdx? fun z => PyData.eqv z.py y.py) = some j → ∃ z, (D.pys xs)[j]? = some z ∧ PyData.eqv z y.py = true ∧ ∀ (m : Nat) (z' : PyData), m < j → (D.pys xs)[m]? = some z' → PyData.eqv z' y.py = false
  | [], _, h => by cases h
  | x :: xs, j, h => by
    rw [List.findIdx?_cons] at h
    rw [D.pys]
    cases q : PyData.eqv x.py y.py with
    | true =>
      rw [if_pos q] at h
      cases h
      exact ⟨_, rfl, q, fun m _ hm => absurd hm (Nat.not_lt_zero _)⟩
    | false =>
      rw [if_neg (by rw [q]; exact Bool.false_ne_true)] at h
      cases f : xs.findIdx? fun z => PyData.eqv z.py y.py with
      | none => rw [f] at h; cases h
      | some k =>
        rw [f] at h
        cases h
        obtain ⟨z, z1, z2, z3⟩ := find_py xs f
        refine ⟨z, z1, z2, fun m z' hm e => ?_⟩
        cases m with
        | zero => cases e; exact q
        | succ m => exact z3 m z' (Nat.lt_of_succ_lt_succ hm) e
theorem tE_index {o e : Expr} {mo m : E} {apos cpos : Pos} (hK : X.K = g.K) (hu : X.A.units + 65 < cLine) (ho : PE X o (tO g Wx C mo)) (he : PE X e (tE g Wx C m)) (hbase : attributeBase o "index" X.env (eval o X.env) = eval o X.env)
    (hfew : ((backTo cpos (starEach [e] X.env)).all (fun x => !x.1) && (backToKw cpos (keywordEach [] X.env)).all (fun x => x.1.isSome) && decide ([e].length + ([] : List Keyword).length + (if ([] : List Keyword).isEmpty then 0 else 1) < 30)) = true)
    (hline : (apos.endLine == cpos.line) = true) (hs : starEach [e] X.env = (false, eval e X.env) :: starEach [] X.env) : PE X (.Call (.Attribute o "index" apos) [e] [] cpos) (tE g Wx C (.index mo m)) :=
  PE.weak (pe_idx hu ho (pa_cons he pa_nil hs) hbase hfew hline hs) fun σ H Q ⟨Φ, W, ρ, S, s, p⟩ => by
    rw [ev] at p
    rw [hK]
    refine ⟨Φ, W, ρ, S, s, Pst.bindO early_RV p fun x ρ1 S1 xv Φ1 H1 W1 l s1 q p1 => ?_⟩
    cases ex : x.get ρ1 with
    | none => rw [ex] at p1; exact p1.elim
    | some d =>
      have hx := q.now s1 ex
      -- behind the argument
      have tail : ∀ (t : Bool), Pst g Wx σ (Own ρ1 σ) Φ1 H1 W1 (RV g σ) ((ev C m ρ1 S1).bind fun y ρ S => lift ((x.get ρ).bind fun x => idxD t x y.d) ρ S) Q →
          tCons (tE g Wx C m) tNil σ H1 fun ws H2 => (t = false → rIndexD g.K xv ws H2 Q) ∧ (t = true → rIndexT g.K xv ws H2 Q) := fun t p2 =>
        ⟨Φ1, W1, ρ1, S1, s1, Pst.bindF early_RV p2 fun c ρ2 S2 yv Φ2 H2 W2 l2 s2 r2 p3 => by
          have q2 : RO g σ H2 xv x Φ2 H2 W2 ρ2 := RO.later q l2.mono l2.wsub
          cases ey : x.get ρ2 with
          | none => rw [ey] at p3; exact p3.elim
          | some d2 =>
            rw [ey] at p3
            have hx2 := q2.now s2 ey
            have p3 : Pst g Wx σ (Own ρ2 σ) Φ2 H2 W2 (RV g σ) (lift (idxD t d2 c.d) ρ2 S2) Q := p3
            have go : ∀ (xs : List D), Pst g Wx σ (Own ρ2 σ) Φ2 H2 W2 (RV g σ) (lift (idxI xs c.d) ρ2 S2) Q → ∃ j z, c.d.plain = true ∧ D.plains xs = true ∧ SeqAt.shaped c.d.py = true ∧ SeqAt.shaped (.list (D.pys xs)) = true ∧ (D.pys xs)[j]? = some z ∧ PyData.eqv z c.d.py = true ∧
                (∀ (m : Nat) (z' : PyData), m < j → (D.pys xs)[m]? = some z' → PyData.eqv z' c.d.py = false) ∧ Q (.int (j : Nat)) H2 := fun xs p4 => by
              unfold idxI at p4
              split at p4
              · rename_i hc
                simp only [Bool.and_eq_true] at hc
                cases f : xs.findIdx? fun z => PyData.eqv z.py c.d.py with
                | none => rw [f] at p4; exact p4.elim
                | some j =>
                  rw [f] at p4
                  obtain ⟨z, z1, z2, z3⟩ := find_py xs f
                  exact ⟨j, z, hc.1.1.1, hc.1.1.2, hc.1.2, hc.2, z1, z2, z3, Pst.okv (a := Vl.fz (.int (j : Nat))) p4 s2 (.int _)⟩
              · exact p4.elim
            have dy : c.d.plain = true → SeqAt.shaped c.d.py = true → Dp g.K H2 yv c.d.py := fun h1 h2 => Rp.dp (r2.mono s2.sub (WSub.refl _)) h1 (SeqAt.canLay_of_shaped h2)
            cases t with
            | false =>
              refine ⟨fun _ => ?_, fun z => by cases z⟩
              cases d2 with
              | lst xs =>
                obtain ⟨j, z, c1, c2, c3, c4, z1, z2, z3, z4⟩ := go xs p3
                obtain ⟨a, vs, rfl, h1, rr⟩ := hx2.lst s2.sub
                have dl : Dp g.K H2 (.ref a) (.list (D.pys xs)) := by
                  have e : D.py (.lst xs) = .list (D.pys xs) := by rw [D.py]
                  have := hx2.dp s2.sub (by rw [D.plain]; exact c2) (by rw [e]; exact SeqAt.canLay_of_shaped c4)
                  rwa [e] at this
                exact ⟨a, yv, c.d.py, D.pys xs, j, z, rfl, rfl, dl, dy c1 c3, c4, c3, z1, z2, z3, z4⟩
              | _ => exact p3.elim
            | true =>
              refine ⟨fun z => (by cases z), fun _ => ?_⟩
              cases d2 with
              | tup xs =>
                obtain ⟨j, z, c1, c2, c3, c4, z1, z2, z3, z4⟩ := go xs p3
                obtain ⟨a, vs, rfl, h1, _, rr⟩ := hx2.tup s2.sub
                have lay : PyData.canLayAll0 (D.pys xs) = true := by
                  have := SeqAt.canLay_of_shaped c4
                  rwa [PyData.canLay0] at this
                exact ⟨a, yv, vs, c.d.py, D.pys xs, j, z, rfl, rfl, h1, Rps.dp (rr.mono s2.sub (WSub.refl _)) c2 lay, dy c1 c3, lay, c3, z1, z2, z3, z4⟩
              | _ => exact p3.elim⟩
      have up : ∀ {t : Bool}, (tCons (tE g Wx C m) tNil σ H1 fun ws H2 => (t = false → rIndexD g.K xv ws H2 Q) ∧ (t = true → rIndexT g.K xv ws H2 Q)) →
          (t = false → tCons (tE g Wx C m) tNil σ H1 fun ws H2 => rIndexD g.K xv ws H2 Q) ∧ (t = true → tCons (tE g Wx C m) tNil σ H1 fun ws H2 => rIndexT g.K xv ws H2 Q) := fun {t} h => by
        cases t with
        | false => exact ⟨fun _ => tCons_mono h fun _ _ z => z.1 rfl, fun z => by cases z⟩
        | true => exact ⟨fun z => (by cases z), fun _ => tCons_mono h fun _ _ z => z.2 rfl⟩
      cases d with
      | lst xs =>
        rw [ex] at p1
        obtain ⟨a, vs, rfl, h1, _⟩ := hx.lst s1.sub
        exact .inl ⟨a, vs, rfl, h1, (up (tail false p1)).1 rfl⟩
      | tup xs =>
        rw [ex] at p1
        obtain ⟨a, vs, rfl, _, h1, _⟩ := hx.tup s1.sub
        exact .inr ⟨a, vs, rfl, same_tqT s1.sub h1, (up (tail true p1)).2 rfl⟩
      | _ => rw [ex] at p1; exact p1.elim
end
end VI
set_option Elab.async false
set_option linter.all false
set_option maxRecDepth 100000
set_option maxHeartbeats 4000000
/-! VIl: min, max of two, isinstance, tuple(range(..)), list(range(..)), x[i], x[j] = .. -/
namespace VI
open PySem PySem.Spec PyProof.Rows L2
section
variable {g : Gl0} {Wx : WX} {C : Cal} {X : Cx} {σ : L2.St} {O O1 O2 : Addr → Prop} {Φ H Φ1 H1 H0 : Hp} {W W1 : Wd} {ρ ρ1 : Rho} {S S1 : So} {i k : Nat} {b : V} {v : Vl}
/-! ### max(a, b), min(a, b) -/
def r2i (f : Int → Int → Int) : List V → Hp → VK → Prop := fun xs H Q => ∃ i j, xs = [.int i, .int j] ∧ Q (.int (f i j)) H
theorem tE_b2 {e : Expr} {b : B2} {ma mb : E} {f : Int → Int → Int} (hE : PE X e (tCB (r2i f) (tCons (tE g Wx C ma) (tCons (tE g Wx C mb) tNil)))) (hf : ∀ x y v, b2D b x y = some v → ∃ i j, x = .int i ∧ y = .int j ∧ v = .fz (.int (f i j))) : PE X e (tE g Wx C (.b2 b ma mb)) :=
  PE.weak hE fun σ H Q ⟨Φ, W, ρ, S, s, p⟩ => by
    rw [ev] at p
    refine ⟨Φ, W, ρ, S, s, Pst.bindF early_RV p fun x ρ1 S1 u Φ1 H1 W1 l s1 q p1 => ⟨Φ1, W1, ρ1, S1, s1, Pst.bindF early_RV p1 fun y ρ2 S2 w Φ2 H2 W2 l2 s2 q2 p2 => ?_⟩⟩
    cases e2 : b2D b x.d y.d with
    | none => rw [e2] at p2; exact p2.elim
    | some v =>
      rw [e2] at p2
      obtain ⟨i, j, e3, e4, rfl⟩ := hf _ _ _ e2
      rw [e3] at q
      rw [e4] at q2
      cases q
      cases q2
      exact ⟨i, j, rfl, Pst.okv (a := Vl.fz (.int (f i j))) p2 s2 (.int _)⟩
theorem b2_max (x y : D) (v : Vl) (h : b2D .max x y = some v) : ∃ i j, x = .int i ∧ y = .int j ∧ v = .fz (.int (if j > i then j else i)) := by
  cases x with
  | int i =>
    cases y with
    | int j => cases h; exact ⟨i, j, rfl, rfl, rfl⟩
    | _ => cases h
  | _ => cases y <;> cases h
theorem b2_min (x y : D) (v : Vl) (h : b2D .min x y = some v) : ∃ i j, x = .int i ∧ y = .int j ∧ v = .fz (.int (if j < i then j else i)) := by
  cases x with
  | int i =>
    cases y with
    | int j => cases h; exact ⟨i, j, rfl, rfl, rfl⟩
    | _ => cases h
  | _ => cases y <;> cases h
/-! ### isinstance -/
theorem kit_tab : ∀ (k : String) (t : Ty), k = "NoneType" ∨ k = "bool" ∨ k = "int" ∨ k = "str" ∨ k = "tuple" ∨ k = "list" ∨ k = "dict" → kitB k t.nm = some (isaB k t) := by
  rintro k t (rfl | rfl | rfl | rfl | rfl | rfl | rfl) <;> cases t <;> decide +kernel
theorem Nw.ty {w : Wr} {x : V} {d : D} {k : String} (sub : Same Φ H) (h : Nw g w Φ H x d) (e : d.kind = some k) : TyX g.K H x (.type k) ∧ (k = "NoneType" ∨ k = "bool" ∨ k = "int" ∨ k = "str" ∨ k = "tuple" ∨ k = "list" ∨ k = "dict") := by
  rcases h with h | ⟨p, vs, xs, rfl, rfl, h, _⟩
  · cases h with
    | non => cases e; exact ⟨.base .non, by simp⟩
    | bl b => cases e; exact ⟨.base (.bl b), by simp⟩
    | int i => cases e; exact ⟨.base (.int i), by simp⟩
    | str z => cases e; exact ⟨.base (.str z), by simp⟩
    | tup h r =>
      cases e
      refine ⟨?_, by simp⟩
      rcases h with ⟨_, ⟨ob, rfl, _⟩, e⟩ | ⟨o, _, _, h1, h2, _⟩
      · exact .fTuple (sub _ _ e)
      · exact .kTuple h1 h2
    | lst h r => cases e; exact ⟨.base (.lst (sub _ _ h)), by simp⟩
    | dic h r => cases e; exact ⟨.base (.dK (sub _ _ h)), by simp⟩
    | scr _ => cases e
    | obj _ _ => cases e
    | src _ => cases e
    | mem _ => cases e
  · cases e; exact ⟨.base (.lst h), by simp⟩
theorem any_kit (k : String) : ∀ ts : List Ty, (k = "NoneType" ∨ k = "bool" ∨ k = "int" ∨ k = "str" ∨ k = "tuple" ∨ k = "list" ∨ k = "dict") → PySem.W.kitAny g.K (.type k) (ts.map fun t => .type t.nm) = some (ts.any (isaB k))
  | [], _ => kitAny_nil
  | t :: ts, h => by
    rw [List.map_cons, List.any_cons]
    exact kitAny_cons (kit_ty (kit_tab k t h)) (fun e => by rw [e]; exact any_kit k ts h) fun e => by rw [e]; rfl
theorem ty_cls : ∀ ts : List Ty, Paired ClsV (ts.map fun t => V.ty t.nm) (ts.map fun t => Value.type t.nm)
  | [] => .nil
  | t :: ts => .cons (.ty _) (ty_cls ts)
theorem any_obj {C : Addr} (h : TyC g.K C) : ∀ ts : List Ty, PySem.W.kitAny g.K (.ref C) (ts.map fun t => .type t.nm) = some false
  | [] => kitAny_nil
  | t :: ts => by
    rw [List.map_cons]
    exact kitAny_cons (h.no t) (fun _ => any_obj h ts) fun e => by cases e
theorem isi_tail {ts : List Ty} {x : Opd} {u : V} {Q : V → Hp → Prop} (s : Stt g Φ H W ρ S σ) (q : RO g σ H u x Φ H W ρ) (p : Pst g Wx σ (Own ρ σ) Φ H W (RV g σ) ((lift ((x.get ρ).bind (isaD ts)) ρ S).bind fun b ρ S => .ok (vbool b) ρ S) Q) :
    ∃ t b, TyX g.K H u t ∧ PySem.W.kitAny g.K t (ts.map fun t => .type t.nm) = some b ∧ Q (.bl b) H := by
  cases ex : x.get ρ with
  | none => rw [ex] at p; exact p.elim
  | some d =>
    have hx := q.now s ex
    rw [ex] at p
    cases ek : d.kind with
    | none =>
      cases eo : d.isObj with
      | false =>
        have e : isaD ts d = none := by unfold isaD; rw [ek]; show (if d.isObj = true then _ else _) = _; rw [eo]; rfl
        rw [Option.bind_some, e] at p; exact p.elim
      | true =>
        have e : isaD ts d = some false := by unfold isaD; rw [ek]; show (if d.isObj = true then _ else _) = _; rw [eo]; rfl
        rw [Option.bind_some, e] at p
        have z : Q (.bl false) H := Pst.okv (a := vbool false) p s (.bl _)
        rcases hx with hx | ⟨_, _, xs, _, rfl, _, _⟩
        · cases hx with
          | obj h ck r => exact ⟨_, _, .base (.ins (s.sub _ _ h) ck.1 ck.2.2.ha ck.2.2.hn ck.2.2.tk ck.2.2.hm), any_obj ck.2.2 ts, z⟩
          | _ => cases eo
        · cases eo
    | some k =>
      have e : isaD ts d = some (ts.any (isaB k)) := by unfold isaD; rw [ek]
      rw [Option.bind_some, e] at p
      obtain ⟨h1, h2⟩ := hx.ty s.sub ek
      exact ⟨_, _, h1, any_kit k ts h2, Pst.okv (a := vbool (ts.any (isaB k))) p s (.bl _)⟩
theorem tE_isi1 {e : Expr} {ma : E} {t : Ty} (hE : PE X e (tCB (rIsi g.K) (tCons (tO g Wx C ma) (tCons (tC (.ty t.nm)) tNil)))) : PE X e (tE g Wx C (.isi [t] ma)) := PE.weak hE fun σ H Q ⟨Φ, W, ρ, S, s, p⟩ => by
  rw [ev] at p
  refine ⟨Φ, W, ρ, S, s, Pst.bindO early_RV p fun x ρ1 S1 u Φ1 H1 W1 l s1 q p1 => ?_⟩
  obtain ⟨k, b, h1, h2, h3⟩ := isi_tail s1 (RO.later q (Same.refl _) (WSub.refl _)) p1
  refine ⟨u, .ty t.nm, k, .type t.nm, b, rfl, .ty _, h1, ?_, h3⟩
  have h2 : PySem.W.kitAny g.K k [.type t.nm] = some b := h2
  unfold PySem.W.kitAny at h2
  cases e : PySem.W.kitOne g.K k (.type t.nm) with
  | none => rw [e] at h2; cases h2
  | some b' =>
    rw [e] at h2
    cases b' with
    | true => cases h2; rfl
    | false => cases h2; rfl
theorem tE_isiN {e : Expr} {ma : E} {ts : List Ty} {tc : TA} (hE : PE X e (tCB (rIsiT g.K) (tCons (tO g Wx C ma) (tCons (tTup tc) tNil)))) (hc : ∀ σ H Q, Q (ts.map fun t => V.ty t.nm) H → tc σ H Q) (hl : ts.length ≤ 1000) : PE X e (tE g Wx C (.isi ts ma)) := PE.weak hE fun σ H Q ⟨Φ, W, ρ, S, s, p⟩ => by
  rw [ev] at p
  refine ⟨Φ, W, ρ, S, s, Pst.bindO early_RV p fun x ρ1 S1 u Φ1 H1 W1 l s1 q p1 => ?_⟩
  refine hc σ H1 _ ⟨by rw [List.length_map, sizeLine_eq]; omega, fun a ha => ?_⟩
  obtain ⟨k, b, h1, h2, h3⟩ := isi_tail (s1.new (o := .tup (ts.map fun t => V.ty t.nm)) ha) (RO.later q (Same.refl _) (WSub.refl _)) (Pst.shift early_RV (LS.new s1 ha) p1)
  exact ⟨u, a, _, k, _, b, rfl, upd_same, ty_cls ts, h1, h2, h3⟩
/-! ### tuple(range(..)), list(range(..)) -/
def tTupRgF (te : L2.St → Hp → (Int → Int → Hp → Prop) → Prop) : TE := fun σ H Q => te σ H fun a b H1 => RgOk a b ∧ NewT (rgV a b) H1 Q
theorem pe_tupRgF {e : Expr} {te : L2.St → Hp → (Int → Int → Hp → Prop) → Prop} {p pos : Pos} (hc : X.calm = true) (hg : Gl X "tuple") (hm : X.mg "tuple" = none) (he : PRg X e te) (na : starEach [e] X.env = (false, eval e X.env) :: starEach [] X.env) : PE X (.Call (.Name "tuple" p) [e] [] pos) (tTupRgF te) := by
  refine ⟨fun pins s σ H Q I q => ?_⟩
  refine Call_ (ld_blt I hg hm boot_tuple (PyProof.Rows.callWith_type1 (args_cons (thn (he pins s σ H _ I q) fun x s1 ⟨r, lo, hi, t, u, v, H1, ex, hr, I1, ok, q1⟩ => args_nil ?_) na) na))
  subst ex
  obtain ⟨c1, c2, c3, c4, c5⟩ := ok
  refine call_tuple_range (n := (hi - lo).toNat) (I1.ok.hd hc) hr (small_one c1 c2 c3 c4) (rangeSize_nat lo hi) c5 fun h' tk acc hk its => ?_
  have z := newT_laid (us := acc.toList) (I1.kept (t' := tk) hk) (vals_rg its) (by rw [rgV_length, sizeLine_eq]; omega) q1 tk
  simpa using z
/-- a range made by its bounds -/
def tRgM (g : Gl0) (Wx : WX) (C : Cal) (ms : List E) : L2.St → Hp → (Int → Int → Hp → Prop) → Prop := fun σ H Q => tA g Wx C ms σ H fun vs H1 => (∃ j, vs = [.int j] ∧ Q 0 j H1) ∨ ∃ i j, vs = [.int i, .int j] ∧ Q i j H1
theorem PRg.weak {e : Expr} {t t' : L2.St → Hp → (Int → Int → Hp → Prop) → Prop} (h : PRg X e t) (w : ∀ σ H Q, t' σ H Q → t σ H Q) : PRg X e t' := fun pins s σ H Q I q => h pins s σ H Q I (w σ H Q q)
theorem rg_len (i j : Int) : (rngL i j).length = (j - i).toNat := by unfold rngL; rw [List.length_map, List.length_range]
theorem rg_rps {w : Wr} (i j : Int) : Rps g w Φ (rgV i j) (rngL i j) := rps_rng w Φ i _
theorem rg_end {ds items : List D} {vs : List V} (h : rng? (2 ^ 62) ds = some items) (hl : items.length ≤ lim) (r : Rps g W.w Φ vs ds) : ∃ i j, (i = 0 ∧ ds = [.int j] ∧ vs = [.int j] ∨ ds = [.int i, .int j] ∧ vs = [.int i, .int j]) ∧ RgOk i j ∧ items = rngL i j := by
  have el : lim = 2 ^ 24 := rfl
  rcases rng?_some h with ⟨j, rfl, h1, h2, rfl⟩ | ⟨i, j, rfl, ⟨h1, h2, h3, h4⟩, rfl⟩
  · rw [rg_len, el] at hl
    exact ⟨0, j, .inl ⟨rfl, rfl, r.int1⟩, ⟨by omega, by omega, by omega, by omega, hl⟩, rfl⟩
  · rw [rg_len, el] at hl
    exact ⟨i, j, .inr ⟨rfl, r.int2⟩, ⟨h1, h2, h3, h4, hl⟩, rfl⟩
/-- range(a): the reading of its making -/
def tRg1F (ta : TA) : L2.St → Hp → (Int → Int → Hp → Prop) → Prop := fun σ H Q => ta σ H fun vs H1 => ∃ j, vs = [.int j] ∧ Q 0 j H1
def tRg2F (ta : TA) : L2.St → Hp → (Int → Int → Hp → Prop) → Prop := fun σ H Q => ta σ H fun vs H1 => ∃ i j, vs = [.int i, .int j] ∧ Q i j H1
theorem prg_1F {a : Expr} {ta : TA} {p pos : Pos} (hg : Gl X "range") (hm : X.mg "range" = none) (ha : PA X [a] ta) (na : starEach [a] X.env = (false, eval a X.env) :: starEach [] X.env) : PRg X (.Call (.Name "range" p) [a] [] pos) (tRg1F ta) := by
  intro pins s σ H Q I q
  refine Call_ (ld_blt I hg hm boot_range (PyProof.Rows.callWith_type1 (thn (ha.run pos pins s σ H _ I q) fun us s1 ⟨vs, H1, I1, r1, j, ev, q1⟩ => ?_) na rfl))
  subst ev
  obtain ⟨u, rfl, t, rfl⟩ := vals1 r1
  exact call_range_1 ⟨_, 0, j, _, _, _, H1, rfl, IsRange.new _ _ _ _ _ _ _, I1.kept fun b u e => Heap.get?_push_of_some _ e, q1⟩
theorem prg_2F {a b : Expr} {ta : TA} {p pos : Pos} (hg : Gl X "range") (hm : X.mg "range" = none) (ha : PA X [a, b] ta) (na : starEach [a, b] X.env = (false, eval a X.env) :: starEach [b] X.env) (hpl : (backTo pos (starEach [b] X.env)).any (·.1) = false) : PRg X (.Call (.Name "range" p) [a, b] [] pos) (tRg2F ta) := by
  intro pins s σ H Q I q
  refine Call_ (ld_blt I hg hm boot_range (PyProof.Rows.callWith_type1 (thn (ha.run pos pins s σ H _ I q) fun us s1 ⟨vs, H1, I1, r1, i, j, ev, q1⟩ => ?_) na hpl))
  subst ev
  obtain ⟨u1, u2, rfl, ⟨t, rfl⟩, t', rfl⟩ := vals2 r1
  exact call_range_2 ⟨_, i, j, _, _, _, H1, rfl, IsRange.new _ _ _ _ _ _ _, I1.kept fun b u e => Heap.get?_push_of_some _ e, q1⟩
theorem rg_go {ms : List E} {mk : List D → Vl} {Q : VK} (s : Stt g Φ H W ρ S σ) (p : Pst g Wx σ (Own ρ σ) Φ H W (RV g σ) ((evs C ms ρ S).bind fun ds ρ S => (lift (rng? (2 ^ 62) ds) ρ S).bind fun xs ρ S => if xs.length ≤ lim then .ok (mk xs) ρ S else .no) Q) :
    tA g Wx C ms σ H fun vs H1 => ∃ i j, (i = 0 ∧ vs = [.int j] ∧ ms.length = 1 ∨ vs = [.int i, .int j] ∧ ms.length = 2) ∧ RgOk i j ∧ ∃ Φ W ρ S, Stt g Φ H1 W ρ S σ ∧ Pst g Wx σ (Own ρ σ) Φ H1 W (RV g σ) (.ok (mk (rngL i j)) ρ S) Q := by
  refine ⟨Φ, W, ρ, S, s, Pst.bind early_RV p fun ds ρ1 S1 vs Φ1 H1 W1 eq l s1 r p1 => ?_⟩
  have r : Rps g W1.w Φ1 vs ds := r
  have len := evs_length _ _ _ eq
  cases er : rng? (2 ^ 62) ds with
  | none => rw [er] at p1; exact p1.elim
  | some items =>
    rw [er] at p1
    have p1 : Pst g Wx σ (Own ρ1 σ) Φ1 H1 W1 (RV g σ) (if items.length ≤ lim then .ok (mk items) ρ1 S1 else .no) Q := p1
    split at p1
    · rename_i hl
      obtain ⟨i, j, h1, ok, rfl⟩ := rg_end er hl r
      refine ⟨i, j, ?_, ok, Φ1, W1, ρ1, S1, s1, p1⟩
      rcases h1 with ⟨h0, rfl, h2⟩ | ⟨rfl, h2⟩
      · exact .inl ⟨h0, h2, len.symm⟩
      · exact .inr ⟨h2, len.symm⟩
    · exact p1.elim
theorem tA_any {ms : List E} {H : Hp} {Q Q' : List V → Hp → Prop} (h : tA g Wx C ms σ H Q) (hq : ∀ vs H, Q vs H → Q' vs H) : tA g Wx C ms σ H Q' := by
  obtain ⟨Φ, W, ρ, S, s, p⟩ := h
  exact ⟨Φ, W, ρ, S, s, p.monoQ hq⟩
theorem tE_trng1 {e : Expr} {m : E} (h : PE X e (tTupRgF (tRg1F (tA g Wx C [m])))) : PE X e (tE g Wx C (.trng [m])) := PE.weak h fun σ H Q ⟨Φ, W, ρ, S, s, p⟩ => by
  rw [ev] at p
  refine tA_any (rg_go (mk := fun xs => .fz (.tup xs)) s p) fun vs H1 ⟨i, j, h, ok, Φ1, W1, ρ1, S1, s1, p1⟩ => ?_
  rcases h with ⟨rfl, h, _⟩ | ⟨_, h⟩
  · exact ⟨j, h, ok, new_tup s1 p1 (rg_rps 0 j)⟩
  · cases h
theorem tE_trng2 {e : Expr} {m m2 : E} (h : PE X e (tTupRgF (tRg2F (tA g Wx C [m, m2])))) : PE X e (tE g Wx C (.trng [m, m2])) := PE.weak h fun σ H Q ⟨Φ, W, ρ, S, s, p⟩ => by
  rw [ev] at p
  refine tA_any (rg_go (mk := fun xs => .fz (.tup xs)) s p) fun vs H1 ⟨i, j, h, ok, Φ1, W1, ρ1, S1, s1, p1⟩ => ?_
  rcases h with ⟨rfl, _, h⟩ | ⟨h, _⟩
  · cases h
  · exact ⟨i, j, h, ok, new_tup s1 p1 (rg_rps i j)⟩
theorem tE_lrng1 {e : Expr} {m : E} (h : PE X e (tLstRg (tRg1F (tA g Wx C [m])))) : PE X e (tE g Wx C (.lrng [m])) := PE.weak h fun σ H Q ⟨Φ, W, ρ, S, s, p⟩ => by
  rw [ev] at p
  refine tA_any (rg_go (mk := fun xs => .ow xs) s p) fun vs H1 ⟨i, j, h, ok, Φ1, W1, ρ1, S1, s1, p1⟩ => ?_
  rcases h with ⟨rfl, h, _⟩ | ⟨_, h⟩
  · exact ⟨j, h, ok, fun a ha => new_ow s1 p1 (rg_rps 0 j) ha⟩
  · cases h
theorem tE_lrng2 {e : Expr} {m m2 : E} (h : PE X e (tLstRg (tRg2F (tA g Wx C [m, m2])))) : PE X e (tE g Wx C (.lrng [m, m2])) := PE.weak h fun σ H Q ⟨Φ, W, ρ, S, s, p⟩ => by
  rw [ev] at p
  refine tA_any (rg_go (mk := fun xs => .ow xs) s p) fun vs H1 ⟨i, j, h, ok, Φ1, W1, ρ1, S1, s1, p1⟩ => ?_
  rcases h with ⟨rfl, _, h⟩ | ⟨h, _⟩
  · cases h
  · exact ⟨i, j, h, ok, fun a ha => new_ow s1 p1 (rg_rps i j) ha⟩
/-! ### x[a], x[b] = v, w -/
/-- a subscript as a target -/
def SubOk (o i : Expr) (pos : Pos) (env : Env) : Prop := ∀ v, assign (.Subscript o i pos) env v = (do
      let ov ← holding [v] (eval o env)
      let iv ← holding [v, ov] (eval i env)
      standAt pos
      holding [v, ov, iv] (setItem ov iv v)
      release [v, ov, iv] [])
theorem tS_sw {o1 o2 i1 i2 : Expr} {es : List Expr} {ms : List E} {m1 m2 : E} {p1 p2 pt pt2 pos : Pos} {kt k2 : Nat} {j : Nat} (hK : X.K = g.K) (hc : X.calm = true) (ho1 : PE X o1 (tVar i)) (ho2 : PE X o2 (tVar j)) (hi1 : PE X i1 (tE g Wx C m1)) (hi2 : PE X i2 (tE g Wx C m2)) (hq1 : SubOk o1 i1 p1 X.env) (hq2 : SubOk o2 i2 p2 X.env) (ha : PA X es (tA g Wx C ms))
    (hs : swapsWithSole [.Tuple [.Subscript o1 i1 p1, .Subscript o2 i2 p2] kt pt] (.Tuple es k2 pt2) pos.line X.env = pure false) (hw : swappedStores [.Tuple [.Subscript o1 i1 p1, .Subscript o2 i2 p2] kt pt] (.Tuple es k2 pt2) X.env = pure none) :
    PS X (.Assign [.Tuple [.Subscript o1 i1 p1, .Subscript o2 i2 p2] kt pt] (.Tuple es k2 pt2) pos) (tS g Wx (ex C (.sw i m1 j m2 ms))) :=
  PS.weak (ps_asg (pe_tup ha) (pg_tup hc (pgs_cons (pg_sub ho1 hi1 set_list hq1) (pgs_cons (pg_sub ho2 hi2 set_list hq2) pgs_nil)) rfl rfl) hs hw rfl) fun D σ H ⟨Φ, W, ρ, S, s, p⟩ => by
    rw [ex] at p
    refine ⟨Φ, W, ρ, S, s, PstS.bind p fun ds ρ1 S1 vs Φ1 H1 W1 l s1 q p1 => ?_⟩
    have q : Rps g W1.w Φ1 vs ds := q
    have p1 := p1.shift l
    match ds, q, p1 with
    | [d1, d2], .cons (v := v1) r1 (.cons (v := v2) r2 .nil), p1 =>
      refine ⟨by show 2 ≤ sizeLine; rw [sizeLine_eq]; decide, fun a ha => ⟨a, _, rfl, SqT.of upd_same, rfl, v1, _, rfl, ?_⟩⟩
      have s2 := s1.new (o := .tup [v1, v2]) ha
      have p2 := PstS.shift (LS.new (o := .tup [v1, v2]) s1 ha) p1
      have step : ∀ {o : Expr} {σ : L2.St} {k : Nat} {m : E} {d : VI.D} {v : V} {Φ H : Hp} {W : Wd} {ρ : Rho} {S : So} {Qn : L2.St → Hp → Prop} {cont : Rho → So → Rst}, Stt g Φ H W ρ S σ → Rp g W.w Φ v d →
          PstS g Wx (Own ρ σ) Φ H W (if isOw ρ k then (ev C m ρ S).st fun j ρ S => (lift (ow? ρ k) ρ S).st fun xs ρ S => (lift (int? j.d) ρ S).st fun j ρ S => (lift (ixN xs.length j) ρ S).st fun j ρ S => cont (ρ.set k (some (.ow (xs.set j d)))) S else .no) D →
          (∀ Φ' H' W' ρ' S', LS (Own ρ σ) Φ H W (Own ρ' σ) Φ' H' W' → Stt g Φ' H' W' ρ' S' σ → PstS g Wx (Own ρ' σ) Φ' H' W' (cont ρ' S') D → Qn σ H') → gSub (tVar k) (tE g Wx C m) rSetL v σ H Qn := by
        intro o σ k m d v Φ H W ρ S Qn cont s r p fin
        split at p
        · rename_i hw
          obtain ⟨xs0, h0⟩ := isOw_get hw
          obtain ⟨a, vs0, ea, ha0, _⟩ := s.owAt h0
          refine ⟨.ref a, ea, Φ, W, ρ, S, s, PstS.bindF p fun j ρ2 S2 jv Φ2 H2 W2 l2 s2 r2 p2 => ?_⟩
          cases ew : ow? ρ2 k with
          | none => rw [ew] at p2; exact p2.elim
          | some xs =>
            rw [ew] at p2
            have hi := ow?_get ew
            obtain ⟨a', vs, ea', h1, r1, _⟩ := s2.owAt hi
            rw [ea] at ea'
            cases ea'
            have p2 : PstS g Wx (Own ρ2 σ) Φ2 H2 W2 ((lift (int? j.d) ρ2 S2).st fun j ρ S => (lift (ixN xs.length j) ρ S).st fun j ρ S => cont (ρ.set k (some (.ow (xs.set j d)))) S) D := p2
            cases ej : j.d with
            | int n =>
              rw [ej] at p2 r2
              cases r2
              have p2 : PstS g Wx (Own ρ2 σ) Φ2 H2 W2 ((lift (ixN xs.length n) ρ2 S2).st fun j ρ S => cont (ρ.set k (some (.ow (xs.set j d)))) S) D := p2
              cases ei : ixN xs.length n with
              | none => rw [ei] at p2; exact p2.elim
              | some t =>
                rw [ei] at p2
                obtain ⟨s3, l3⟩ := s2.mut hi ea (r1.set (r.mono l2.mono l2.wsub) t)
                exact ⟨a, vs, n, t, rfl, rfl, h1, by rw [r1.length]; exact ei, fin _ _ _ _ _ (l2.trans l3) s3 (PstS.shift l3 p2)⟩
            | _ => rw [ej] at p2; exact p2.elim
        · exact p.elim
      refine step (o := o1) (cont := fun ρ S => if isOw ρ j then (ev C m2 ρ S).st fun n ρ S => (lift (ow? ρ j) ρ S).st fun xs ρ S => (lift (int? n.d) ρ S).st fun n ρ S => (lift (ixN xs.length n) ρ S).st fun n ρ S => .nx (ρ.set j (some (.ow (xs.set n d2)))) S else .no) s2 r1 p2 fun Φ' H' W' ρ' S' l' s' p' => ?_
      refine ⟨v2, [], rfl, ?_⟩
      exact step (o := o2) (cont := fun ρ S => .nx ρ S) s' (r2.mono l'.mono l'.wsub) p' fun Φ'' H'' W'' ρ'' S'' l'' s'' p'' => ⟨rfl, p''.nx' s''⟩
    | [], _, p1 => exact p1.elim
    | [_], _, p1 => exact p1.elim
    | _ :: _ :: _ :: _, _, p1 => exact p1.elim
end
end VI
set_option Elab.async false
set_option linter.all false
set_option maxRecDepth 100000
set_option maxHeartbeats 4000000
/-! VIp: the law's source of draws. -/
namespace VI
open PySem PySem.Spec PyProof.Rows L2
def SK.nm : SK → Str
  | .left => "left"
  | .mixed => "mixed"
  | .turn => "turn"
section
variable {g : Gl0} {Wx : WX} {C : Cal} {X : Cx} {σ : L2.St} {O O1 O2 : Addr → Prop} {Φ H Φ1 H1 H0 : Hp} {W W1 : Wd} {ρ ρ1 : Rho} {S S1 : So} {i : Nat} {b : V} {v : Vl}
theorem src?_get {s : Src} (h : src? ρ i S = some s) : slD? ρ i = some .src ∧ S = some s := by
  unfold src? at h
  split at h
  · cases h; exact ⟨by assumption, rfl⟩
  · cases h
theorem Stt.srcAt {s : Src} (st : Stt g Φ H W ρ S σ) (h : src? ρ i S = some s) : ∃ a c, σ[i]? = some (some (.ref a)) ∧ W.root = some (a, c) ∧ H a = some (.dK (srcKvs c s)) ∧ H c = some (.lst (s.cells.map V.int)) ∧ Φ a = none ∧ Φ c = none := by
  obtain ⟨h1, rfl⟩ := src?_get h
  unfold slD? at h1
  split at h1
  · rename_i u hu
    cases u with
    | ow xs => cases h1
    | fz d =>
      have h1 : some d = some .src := h1
      cases h1
      obtain ⟨x, e, v, rfl, r⟩ := st.slot i _ hu
      cases r with
      | @src a hw =>
        have q := st.src.base
        unfold SrcOk0 at q
        cases hr : W.root with
        | none => have hw : W.root.map (·.1) = some a := hw; rw [hr] at hw; cases hw
        | some p =>
          obtain ⟨a', c⟩ := p
          have hw : W.root.map (·.1) = some a := hw
          rw [hr] at hw
          cases hw
          rw [hr] at q
          exact ⟨a', c, e, rfl, q⟩
  · cases h1
theorem src_val (c : Addr) (s : Src) (k : SK) : valV (srcKvs c s) (.inr k.nm) = some (.int (s.get k)) := by
  cases k <;> rfl
theorem src_put (c : Addr) (s : Src) (k : SK) (n : Int) : putK (srcKvs c s) (.inr k.nm) (.int n) = srcKvs c (s.put n k) := by
  cases k <;> rfl
theorem src_cells (c : Addr) (s : Src) : valV (srcKvs c s) (.inr "cells") = some (.ref c) := rfl
/-- the dicts that change stay while the source does something -/
theorem SrcOk.re {S' : So} {p : Addr} {o : HO} (q : SrcOk g W S Φ H) (np : ∀ (i : Nat) (m : Mem) (a : Addr), ¬ (a = p ∧ W.mems[i]? = some a ∧ (memsOf S)[i]? = some m)) (b : SrcOk0 W S' Φ (L2.upd H p o)) (e : memsOf S' = memsOf S) : SrcOk g W S' Φ (L2.upd H p o) :=
  ⟨b, by rw [e]; exact q.len, q.nd, fun i a m h1 h2 => by
    rw [e] at h2
    obtain ⟨⟨xs, z, r⟩, na⟩ := q.mem i a m h1 h2
    refine ⟨⟨xs, ?_, r⟩, na⟩
    rw [upd_ne]
    · exact z
    · intro h; exact np i m a ⟨h, h1, h2⟩⟩
/-- no list, no dict of the source is a dict that changes -/
theorem SrcOk.nmem {p : Addr} {u : HO} (q : SrcOk g W S Φ H) (h : H p = some u) (hu : ∀ xs, u ≠ memO g p xs) (i : Nat) (m : Mem) : ¬ (W.mems[i]? = some p ∧ (memsOf S)[i]? = some m) := fun ⟨h1, h2⟩ => by
  obtain ⟨⟨xs, z, r⟩, na⟩ := q.mem i p m h1 h2
  rw [h] at z
  exact hu xs (Option.some.inj z)
/-- one of the source's two objects is changed -/
theorem Stt.srcUpd {S' : So} {p : Addr} {o : HO} (s : Stt g Φ H W ρ S σ) (hp : W.fp p) (hn : Φ p = none) (src' : SrcOk g W S' Φ (L2.upd H p o)) : Stt g Φ (L2.upd H p o) W ρ S' σ ∧ LS (Own ρ σ) Φ H W (Own ρ σ) Φ (L2.upd H p o) W := by
  refine ⟨⟨fun b u q => ?_, src', s.len, fun j u e => ?_, s.apart⟩, ⟨Same.refl _, fun b u q nf no => ?_, fun _ _ _ => rfl, fun _ z => .inl z, WSub.refl _, fun b q => ?_, fun _ z => .inl z⟩⟩
  · rw [upd_ne]
    · exact s.sub b u q
    · rintro rfl; rw [hn] at q; cases q
  · obtain ⟨x, f, ok⟩ := s.slot j u e
    refine ⟨x, f, ?_⟩
    cases u with
    | fz d => exact ok
    | ow xs =>
      obtain ⟨q, vs, rfl, z1, z2, z3, z4⟩ := ok
      refine ⟨q, vs, rfl, ?_, z2, z3, z4⟩
      rw [upd_ne]
      · exact z1
      · rintro rfl; exact z4 hp
  · rw [upd_ne]
    · exact q
    · rintro rfl; exact nf hp
  · unfold L2.upd
    split
    · exact fun z => nomatch z
    · exact q
theorem noSl_con {c : Const} {k : Nat} {p : Pos} : NoSl (.Constant c k p) := fun _ _ => rfl
/-! ### reading -/
theorem get_er {o : Expr} {k : Str} {j : Nat} {p pos : Pos} (hu : X.A.units + 1 < cLine) (ho : PE X o (tVar i)) : PE X (.Subscript o (.Constant (.str k) j p) pos) (fun σ H Q => ∃ a v, σ[i]? = some (some (.ref a)) ∧ DGet H a (.str k) (some v) ∧ Q v H) :=
  PE.weak (pe_dget hu ho pe_str noSl_con) fun σ H Q ⟨a, v, e, g, q⟩ => ⟨.ref a, e, a, v, rfl, g, q⟩
theorem tE_sget {o : Expr} {k : SK} {j : Nat} {p pos : Pos} (hu : X.A.units + 1 < cLine) (ho : PE X o (tVar i)) : PE X (.Subscript o (.Constant (.str k.nm) j p) pos) (tE g Wx C (.sget i k)) := PE.weak (get_er hu ho) fun σ H Q ⟨Φ, W, ρ, S, s, p⟩ => by
  rw [ev] at p
  cases e : src? ρ i S with
  | none => rw [e] at p; exact p.elim
  | some s0 =>
    rw [e] at p
    obtain ⟨a, c, e1, _, h1, _⟩ := s.srcAt e
    refine ⟨a, .int (s0.get k), e1, ?_, Pst.okv (a := Vl.fz (.int (s0.get k))) p s (.int _)⟩
    rw [← src_val c s0 k]
    exact DGet.k (k := .inr k.nm) h1
theorem tE_slen {o : Expr} {j : Nat} {p p2 p3 pos : Pos} (hu : X.A.units + 1 < cLine) (ho : PE X o (tVar i)) (hg : Gl X "len") (hm : X.mg "len" = none) : PE X (.Call (.Name "len" p3) [.Subscript o (.Constant (.str "cells") j p) p2] [] pos) (tE g Wx C (.slen i)) :=
  PE.weak (pe_callB call_len_seq hg hm boot_len (pa_cons (get_er (k := "cells") hu ho) pa_nil rfl) (he := rfl)) fun σ H Q ⟨Φ, W, ρ, S, s, p⟩ => by
    rw [ev] at p
    cases e : src? ρ i S with
    | none => rw [e] at p; exact p.elim
    | some s0 =>
      rw [e] at p
      obtain ⟨a, c, e1, _, h1, h2, _⟩ := s.srcAt e
      refine ⟨a, .ref c, e1, by rw [← src_cells c s0]; exact DGet.k (k := .inr "cells") h1, c, s0.cells.map V.int, rfl, .inl (SqL.of h2), ?_⟩
      rw [List.length_map]
      exact Pst.okv (a := Vl.fz (.int s0.cells.length)) p s (.int _)
theorem tE_spop {o : Expr} {j : Nat} {p p2 apos cpos : Pos} (hu : X.A.units + 1 < cLine) (ho : PE X o (tVar i)) (hline : (apos.endLine == cpos.line) = true) : PE X (.Call (.Attribute (.Subscript o (.Constant (.str "cells") j p) p2) "pop" apos) [] [] cpos) (tE g Wx C (.spop i)) :=
  PE.weak (pe_bm0 F.plainAttrs_list F.slot_list_pop F.type_list_pop mt_pop (get_er (k := "cells") hu ho) rfl hline) fun σ H Q ⟨Φ, W, ρ, S, s, p⟩ => by
    rw [ev] at p
    cases e : src? ρ i S with
    | none => rw [e] at p; exact p.elim
    | some s0 =>
      rw [e] at p
      obtain ⟨a, c, e1, hr, h1, h2, n1, n2⟩ := s.srcAt e
      have p : Pst g Wx σ (Own ρ σ) Φ H W (RV g σ) ((lift (s0.cells[s0.cells.length - 1]?) ρ S).bind fun n ρ _ => .ok (.fz (.int n)) ρ (some { s0 with cells := s0.cells.dropLast })) Q := p
      cases el : s0.cells[s0.cells.length - 1]? with
      | none => rw [el] at p; exact p.elim
      | some n =>
        rw [el] at p
        have dl : (s0.cells.map V.int).dropLast = s0.cells.dropLast.map V.int := by rw [List.dropLast_eq_take, List.dropLast_eq_take, List.map_take, List.length_map]
        obtain ⟨s2, l2⟩ := s.srcUpd (p := c) (o := .lst (s0.cells.dropLast.map V.int)) (S' := some { s0 with cells := s0.cells.dropLast }) (.inl ⟨a, c, hr, .inr rfl⟩) n2 (by
          refine s.src.re (fun i m b hb => ?_) ?_ (by rw [(src?_get e).2]; rfl)
          · obtain ⟨rfl, hb⟩ := hb
            exact s.src.nmem h2 (fun xs z => nomatch z) i m hb
          · unfold SrcOk0
            rw [hr]
            refine ⟨?_, upd_same, n1, n2⟩
            rw [upd_ne]
            · exact h1
            · rintro rfl; rw [h1] at h2; cases h2)
        refine ⟨a, .ref c, e1, by rw [← src_cells c s0]; exact DGet.k (k := .inr "cells") h1, .inl ⟨rfl, _, SqL.of h2⟩, c, s0.cells.map V.int, .int n, rfl, rfl, h2, by rw [List.length_map, List.getElem?_map, el]; rfl, ?_⟩
        rw [dl]
        exact p (.int n) Φ _ W l2 s2 (.int n)
/-! ### writing -/
theorem tS_sput {o e : Expr} {k : SK} {m : E} {j : Nat} {p p2 pos : Pos} (hu : X.A.units + 1 < cLine) (ho : PE X o (tVar i)) (he : PE X e (tE g Wx C m)) (hs : swapsWith e (some (.Subscript o (.Constant (.str k.nm) j p) p2)) pos.line X.env = pure false) :
    PS X (.Assign [.Subscript o (.Constant (.str k.nm) j p) p2] e pos) (tS g Wx (ex C (.sput i k m))) := PS.weak (ps_dput hu ho pe_str he hs) fun D σ H ⟨Φ, W, ρ, S, s, p⟩ => by
  rw [ex] at p
  refine ⟨Φ, W, ρ, S, s, PstS.bindF p fun c ρ1 S1 d Φ1 H1 W1 l s1 r p1 => ?_⟩
  cases e : src? ρ1 i S1 with
  | none => rw [e] at p1; exact p1.elim
  | some s0 =>
    rw [e] at p1
    obtain ⟨a, cc, e1, hr, h1, h2, n1, n2⟩ := s1.srcAt e
    have p1 : PstS g Wx (Own ρ1 σ) Φ1 H1 W1 ((lift (int? c.d) ρ1 S1).st fun n ρ _ => .nx ρ (some (s0.put n k))) D := p1
    cases ed : c.d with
    | int n =>
      rw [ed] at p1 r
      cases r
      have p1 : PstS g Wx (Own ρ1 σ) Φ1 H1 W1 (.nx ρ1 (some (s0.put n k))) D := p1
      obtain ⟨s2, l2⟩ := s1.srcUpd (p := a) (o := .dK (srcKvs cc (s0.put n k))) (S' := some (s0.put n k)) (.inl ⟨a, cc, hr, .inl rfl⟩) n1 (by
        refine s1.src.re (fun i m b hb => ?_) ?_ (by rw [(src?_get e).2]; cases k <;> rfl)
        · obtain ⟨rfl, hb⟩ := hb
          exact s1.src.nmem h1 (fun xs z => nomatch z) i m hb
        · unfold SrcOk0
          rw [hr]
          refine ⟨upd_same, ?_, n1, n2⟩
          rw [upd_ne]
          · cases k <;> exact h2
          · rintro rfl; rw [h1] at h2; cases h2)
      refine ⟨.ref a, e1, a, _, rfl, ?_, p1 σ Φ1 _ W1 l2 s2⟩
      rw [← src_put]
      exact DPut.k (k := .inr k.nm) h1 (by show 4 < sizeLine; rw [sizeLine_eq]; decide)
    | _ => rw [ed] at p1; exact p1.elim
/-! ### making -/
theorem Pst.bindL {α β γ δ : Type} {R : Rl α β} {R' : Rl γ δ} {r : Rs γ} {f : γ → Rho → So → Rs α} {Q : β → Hp → Prop} {Q' : δ → Hp → Prop} (L : LS O Φ H W O1 Φ1 H1 W1) (h : Pst g Wx σ O Φ H W R (r.bind f) Q)
    (k : ∀ (c : γ) (ρ2 : Rho) (S2 : So) (d : δ) (Φ2 H2 : Hp) (W2 : Wd), LS O1 Φ1 H1 W1 (Own ρ2 σ) Φ2 H2 W2 → Stt g Φ2 H2 W2 ρ2 S2 σ → R' H1 d c Φ2 H2 W2 ρ2 → Pst g Wx σ O Φ H W R (f c ρ2 S2) Q → Q' d H2) : Pst g Wx σ O1 Φ1 H1 W1 R' r Q' := by
  cases r with
  | ok c ρ2 S2 => exact fun d Φ2 H2 W2 l s q => k c ρ2 S2 d Φ2 H2 W2 l s q h
  | rs x ρ' S' => exact fun c d Φ' H' W' l s q => h c d Φ' H' W' (L.trans l) s q
  | no => exact h
theorem mkS_some {c l m t : Vl} {s : Src} (h : mkS c l m t S = some s) : ∃ xs, c = .ow xs ∧ ints? xs = some s.cells ∧ l = .fz (.int s.left) ∧ m = .fz (.int s.mixed) ∧ t = .fz (.int s.turn) ∧ S = none ∧ s.mem = [] := by
  unfold mkS at h
  split at h
  · rename_i xs l m t
    cases e : ints? xs with
    | none => rw [e] at h; cases h
    | some is => rw [e] at h; cases h; exact ⟨xs, rfl, e, rfl, rfl, rfl, rfl, rfl⟩
  · cases h
theorem tE_mks {ec el em et : Expr} {c l m t : E} {j1 j2 j3 j4 : Nat} {p1 p2 p3 p4 pos : Pos} (hc : PE X ec (tE g Wx C c)) (hl : PE X el (tE g Wx C l)) (hm : PE X em (tE g Wx C m)) (ht : PE X et (tE g Wx C t)) :
    PE X (.Dict [some (.Constant (.str "cells") j1 p1), some (.Constant (.str "left") j2 p2), some (.Constant (.str "mixed") j3 p3), some (.Constant (.str "turn") j4 p4)] [ec, el, em, et] pos) (tE g Wx C (.mks c l m t)) :=
  PE.weak (pe_disp (pps_cons pe_str hc (pps_cons pe_str hl (pps_cons pe_str hm (pps_cons pe_str ht pps_nil)))) rfl rfl (by simp) (by show 4 ≤ 15; decide)) fun σ H Q ⟨Φ, W, ρ, S, s, p⟩ a ha => by
    rw [ev] at p
    have s0 := s.new (o := .dK []) ha
    have l0 : LS (Own ρ σ) Φ H W (Own ρ σ) Φ (L2.upd H a (.dK [])) W := LS.new s ha
    refine ⟨Φ, W, ρ, S, s0, Pst.bindL (R' := RV g σ) l0 p fun vc ρ1 S1 x1 Φ1 H1 W1 l1 s1 q1 p1 => ⟨Φ1, W1, ρ1, S1, s1, ?_⟩⟩
    have L1 := l0.trans l1
    refine Pst.bindL (R' := RV g σ) L1 p1 fun vl ρ2 S2 x2 Φ2 H2 W2 l2 s2 q2 p2 => ⟨Φ2, W2, ρ2, S2, s2, ?_⟩
    have L2' := L1.trans l2
    refine Pst.bindL (R' := RV g σ) L2' p2 fun vm ρ3 S3 x3 Φ3 H3 W3 l3 s3 q3 p3 => ⟨Φ3, W3, ρ3, S3, s3, ?_⟩
    have L3 := L2'.trans l3
    refine Pst.bindL (R' := RV g σ) L3 p3 fun vt ρ4 S4 x4 Φ4 H4 W4 l4 s4 q4 p4 => ?_
    have L4 := L3.trans l4
    cases e : mkS vc vl vm vt S4 with
    | none => rw [e] at p4; exact p4.elim
    | some s' =>
      rw [e] at p4
      have p4 : Pst g Wx σ (Own ρ σ) Φ H W (RV g σ) (.ok (.fz .src) ρ4 (some s')) Q := p4
      obtain ⟨xs, rfl, ei, rfl, rfl, rfl, rfl, hmm⟩ := mkS_some e
      have q1 : VOk g (L2.upd H a (.dK [])) x1 Φ1 H1 W1 (Own ρ1 σ) (.ow xs) := q1
      obtain ⟨cc, vs, rfl, h1, r1, h2, h3, h4, h5⟩ := ((q1.later l2).later l3).later l4
      have x2' : x2 = .int s'.left := by cases (show Rp g W2.w Φ2 x2 (.int s'.left) from q2); rfl
      have x3' : x3 = .int s'.mixed := by cases (show Rp g W3.w Φ3 x3 (.int s'.mixed) from q3); rfl
      have x4' : x4 = .int s'.turn := by cases (show Rp g W4.w Φ4 x4 (.int s'.turn) from q4); rfl
      subst x2' x3' x4'
      have ev' := r1.ints ei
      subst ev'
      -- the dict is nobody's
      have nfa : ¬ W.fp a := s.nfp ha
      have noa : ¬ Own ρ σ a := s.nown ha
      have l14 := ((l1.trans l2).trans l3).trans l4
      have ha4 : H4 a = some (.dK []) := l14.keep a _ upd_same nfa noa
      have na : (L2.upd H a (.dK [])) a ≠ none := by rw [upd_same]; exact fun z => nomatch z
      have pa : Φ4 a = none := (l14.frz a na noa).trans (s.phi ha)
      have fa4 : ¬ W4.fp a := fun z => (l14.wfp a z).elim nfa na
      have oa4 : ¬ Own ρ4 σ a := fun z => (l14.own a z).elim noa na
      have ca : cc ≠ a := by rintro rfl; rw [h1] at ha4; cases ha4
      have hcc : H cc = none := by rw [upd_ne ca] at h5; exact h5
      have root : W4.root = none := by
        have q := s4.src.base
        unfold SrcOk0 at q
        cases hr : W4.root with
        | none => rfl
        | some z => rw [hr] at q; exact q.elim
      have noM : W4.mems = [] := List.length_eq_zero_iff.mp s4.src.len
      have ww : W4.w = ⟨none, []⟩ := by unfold Wd.w; rw [root, noM]; rfl
      have sub4 : WSub W4.w (Wd.w ⟨some (a, cc), []⟩) := by
        refine ⟨fun b z => ?_, fun i b z => ?_⟩
        · rw [ww] at z; cases z
        · rw [ww] at z; simp at z
      have fp' : ∀ {b : Addr}, Wd.fp ⟨some (a, cc), []⟩ b → b = a ∨ b = cc := fun {b} z => by
        rcases z with ⟨a', c', z1, z2⟩ | z
        · cases z1
          exact z2
        · cases z
      refine ⟨ha4, [(.inr "cells", .ref cc), (.inr "left", .int s'.left), (.inr "mixed", .int s'.mixed), (.inr "turn", .int s'.turn)], rfl, by show 4 ≤ 15; decide, ?_⟩
      have em : mergeK [] [((.inr "cells" : Key), V.ref cc), (.inr "left", .int s'.left), (.inr "mixed", .int s'.mixed), (.inr "turn", .int s'.turn)] = srcKvs cc s' := rfl
      rw [em]
      have s5 := s4.beside (o := .dK (srcKvs cc s')) pa fa4 oa4
      refine p4 (.ref a) Φ4 _ ⟨some (a, cc), []⟩ ⟨L4.mono, fun b o z nf no => ?_, L4.frz, fun b z => .inr ?_, L4.wsub.trans sub4, fun b z => ?_, L4.own⟩ ⟨s5.sub, ⟨⟨upd_same, (upd_ne ca).trans h1, pa, h2⟩, by show 0 = (memsOf (some s')).length; show 0 = s'.mem.length; rw [hmm]; rfl, List.nodup_nil, fun i b m z1 z2 => by simp at z1⟩, s5.len, fun j u z => ?_, s5.apart⟩ (.src rfl)
      · exact (upd_ne (ne_of_none z ha)).trans (L4.keep b o z nf no)
      · rcases fp' z with rfl | rfl
        · exact ha
        · exact hcc
      · unfold L2.upd
        split
        · exact fun z => nomatch z
        · exact L4.live b z
      · obtain ⟨x, f, ok⟩ := s5.slot j u z
        refine ⟨x, f, ?_⟩
        cases u with
        | fz d =>
          obtain ⟨v, rfl, r⟩ := ok
          exact ⟨v, rfl, r.mono (Same.refl _) sub4⟩
        | ow ys =>
          obtain ⟨b, ws, rfl, z1, z2, z3, z4⟩ := ok
          refine ⟨b, ws, rfl, z1, z2.mono (Same.refl _) sub4, z3, fun zf => ?_⟩
          rcases fp' zf with rfl | rfl
          · rw [upd_same] at z1; cases z1
          · exact h4 ⟨j, ys, z, f⟩
end
end VI
set_option Elab.async false
set_option linter.all false
set_option maxRecDepth 100000
set_option maxHeartbeats 4000000
/-! VIt: dicts with written keys, instances of the text's classes. -/
namespace VI
open PySem PySem.Spec PyProof.Rows L2
theorem Rs.bind_assoc {α β γ : Type} (r : Rs α) (f : α → Rho → So → Rs β) (h : β → Rho → So → Rs γ) : (r.bind f).bind h = r.bind fun a ρ S => (f a ρ S).bind h := by
  cases r <;> rfl
section
variable {g : Gl0} {Wx : WX} {C : Cal} {X : Cx} {σ : L2.St} {O O1 O2 : Addr → Prop} {Φ H Φ1 H1 H0 Φ0 : Hp} {W W1 W0 : Wd} {ρ ρ1 : Rho} {S S1 : So} {i : Nat} {b : V} {v : Vl}
theorem LS.shut {a : Addr} {o : HO} (l : LS O Φ H W O1 Φ1 H1 W1) (h : H a = none) (h1 : Φ1 a = none) : LS O Φ H W O1 (upd Φ1 a o) (upd H1 a o) W1 := (l.beside h).told h h1
/-- the pairs of a display -/
def tKey (k : Key) : TE := fun _ H Q => Q (kV k) H
def prsT (g : Gl0) (Wx : WX) (C : Cal) : List Key → List E → List (TE × TE)
  | k :: ks, m :: ms => (tKey k, tE g Wx C m) :: prsT g Wx C ks ms
  | _, _ => []
def prsV : List Key → List V → List (Key × V)
  | k :: ks, v :: vs => (k, v) :: prsV ks vs
  | _, _ => []
theorem pairs_ok (σ : L2.St) {Q : VK} : ∀ (ks : List Key) (ms : List E) (K : List D → Rho → So → Rs Vl) {Q' : List (V × V) → Hp → Prop} {O Φ0 H0 W0 Φ H W ρ S}, ks.length = ms.length → LS O Φ0 H0 W0 (Own ρ σ) Φ H W → Stt g Φ H W ρ S σ →
    Pst g Wx σ O Φ0 H0 W0 (RV g σ) ((evs C ms ρ S).bind K) Q →
    (∀ ds ρ' S' vs Φ' H' W', LS (Own ρ σ) Φ H W (Own ρ' σ) Φ' H' W' → Stt g Φ' H' W' ρ' S' σ → Rps g W'.w Φ' vs ds → vs.length = ks.length → Pst g Wx σ O Φ0 H0 W0 (RV g σ) (K ds ρ' S') Q → Q' ((prsV ks vs).map fun kv => (kV kv.1, kv.2)) H') →
    tPairs (prsT g Wx C ks ms) σ H Q'
  | [], [], K, Q', O, Φ0, H0, W0, Φ, H, W, ρ, S, _, L, s, p, q => by
    rw [evs] at p
    exact q [] ρ S [] Φ H W LS.refl s .nil rfl p
  | k :: ks, m :: ms, K, Q', O, Φ0, H0, W0, Φ, H, W, ρ, S, hl, L, s, p, q => by
    rw [evs, Rs.bind_assoc] at p
    refine ⟨Φ, W, ρ, S, s, Pst.bindL (R' := RV g σ) L p fun v ρ1 S1 x Φ1 H1 W1 l1 s1 q1 p1 => ?_⟩
    obtain ⟨Φ2, e2, l2, s2, r2⟩ := told l1 s1 q1
    rw [Rs.bind_assoc] at p1
    refine pairs_ok σ ks ms (fun ds ρ S => K (v.d :: ds) ρ S) (Nat.succ.inj hl) (L.trans l2) s2 p1 fun ds ρ' S' vs Φ' H' W' l3 s3 r3 hv p3 => ?_
    exact q (v.d :: ds) ρ' S' (x :: vs) Φ' H' W' (l2.trans l3) s3 (.cons (r2.mono l3.mono l3.wsub) r3) (congrArg Nat.succ hv) p3
  | [], _ :: _, _, _, _, _, _, _, _, _, _, _, _, hl, _, _, _, _ => by cases hl
  | _ :: _, [], _, _, _, _, _, _, _, _, _, _, _, hl, _, _, _, _ => by cases hl
theorem prsV_keys : ∀ (ks : List Key) (vs : List V), vs.length = ks.length → (prsV ks vs).map (·.1) = ks
  | [], [], _ => rfl
  | k :: ks, v :: vs, h => by
    rw [prsV, List.map_cons, prsV_keys ks vs (Nat.succ.inj h)]
  | [], _ :: _, h => by cases h
  | _ :: _, [], h => by cases h
theorem prsV_len (ks : List Key) (vs : List V) (h : vs.length = ks.length) : (prsV ks vs).length = ks.length := by
  have e := congrArg List.length (prsV_keys ks vs h)
  rwa [List.length_map] at e
theorem valV_none {k : Key} : ∀ {kvs : List (Key × V)}, k ∉ kvs.map (·.1) → valV kvs k = none
  | [], _ => rfl
  | p :: r, h => by
    rw [valV_neg (fun e => h (by rw [List.map_cons, e]; exact List.mem_cons_self))]
    exact valV_none fun z => h (List.mem_cons_of_mem _ z)
/-- pairs with unlike keys, put one by one -/
theorem merge_new : ∀ (kvs acc : List (Key × V)), ((acc ++ kvs).map (·.1)).Nodup → mergeK acc kvs = acc ++ kvs
  | [], acc, _ => by rw [List.append_nil]; rfl
  | p :: r, acc, h => by
    have e : acc ++ p :: r = (acc ++ [p]) ++ r := by rw [List.append_assoc]; rfl
    have hp : p.1 ∉ acc.map (·.1) := by
      rw [List.map_append, List.map_cons] at h
      have := (List.nodup_append.mp h).2.2
      intro z
      exact this _ z _ List.mem_cons_self rfl
    show mergeK (putK acc p.1 p.2) r = _
    rw [putK_new p.2 (valV_none hp), e]
    exact merge_new r (acc ++ [p]) (by rw [← e]; exact h)
theorem rpk_of {w : Wr} : ∀ (ks : List Key) {vs : List V} {ds : List D}, Rps g w Φ vs ds → vs.length = ks.length → RpK g w Φ (prsV ks vs) (ks.zip ds)
  | [], _, _, .nil, _ => .nil
  | k :: ks, _, _, .cons h r, hl => .cons h (rpk_of ks r (Nat.succ.inj hl))
  | [], _, _, .cons _ _, hl => by cases hl
  | _ :: _, _, _, .nil, hl => by cases hl
theorem tE_dic {keys : List (Option Expr)} {values : List Expr} {ks : List Key} {ms : List E} {pos : Pos} (h : PPs X pos keys values (prsT g Wx C ks ms)) (hall : keys.all (·.isSome) = true) (hl : keys.length = values.length) (h0 : keys ≠ []) (hk : keys.length ≤ 15) (hkm : ks.length = ms.length) :
    PE X (.Dict keys values pos) (tE g Wx C (.dic ks ms)) := PE.weak (pe_disp h hall hl h0 hk) fun σ H Q ⟨Φ, W, ρ, S, s, p⟩ a ha => by
  rw [ev] at p
  have s0 := s.new (o := .dK []) ha
  have l0 : LS (Own ρ σ) Φ H W (Own ρ σ) Φ (L2.upd H a (.dK [])) W := LS.new s ha
  refine pairs_ok σ ks ms _ hkm l0 s0 p fun ds ρ' S' vs Φ' H' W' l s' r hv p' => ?_
  have nfa : ¬ W.fp a := s.nfp ha
  have noa : ¬ Own ρ σ a := s.nown ha
  have na : (L2.upd H a (.dK [])) a ≠ none := by rw [upd_same]; exact fun z => nomatch z
  have ha' : H' a = some (.dK []) := l.keep a _ upd_same nfa noa
  have pa : Φ' a = none := (l.frz a na noa).trans (s.phi ha)
  have fa' : ¬ W'.fp a := fun z => (l.wfp a z).elim nfa na
  have oa' : ¬ Own ρ' σ a := fun z => (l.own a z).elim noa na
  by_cases hc : ks.length = ds.length ∧ ks.Nodup ∧ ks.length ≤ 15
  · have p' : Pst g Wx σ (Own ρ σ) Φ H W (RV g σ) (.ok (.fz (.dic (ks.zip ds))) ρ' S') Q := by
      have e : (if ks.length = ds.length ∧ ks.Nodup ∧ ks.length ≤ 15 then (.ok (.fz (.dic (ks.zip ds))) ρ' S' : Rs Vl) else .no) = .ok (.fz (.dic (ks.zip ds))) ρ' S' := if_pos hc
      rw [← e]
      exact p'
    refine ⟨ha', prsV ks vs, rfl, by rw [prsV_len ks vs hv]; exact hc.2.2, ?_⟩
    have em : mergeK [] (prsV ks vs) = prsV ks vs := merge_new (prsV ks vs) [] (by rw [List.nil_append, prsV_keys ks vs hv]; exact hc.2.1)
    rw [em]
    have s5 := (s'.beside (o := .dK (prsV ks vs)) pa fa' oa').frz pa upd_same fa' oa'
    refine p' (.ref a) _ _ W' ((l0.trans l).shut ha pa) s5 ?_
    exact .dic upd_same ((rpk_of ks r hv).mono (same_upd pa) (WSub.refl _))
  · have p' : Pst g Wx σ (Own ρ σ) Φ H W (RV g σ) .no Q := by
      have e : (if ks.length = ds.length ∧ ks.Nodup ∧ ks.length ≤ 15 then (.ok (.fz (.dic (ks.zip ds))) ρ' S' : Rs Vl) else .no) = .no := if_neg hc
      rw [← e]
      exact p'
    exact p'.elim
theorem tE_dic0 {pos : Pos} : PE X (.Dict [] [] pos) (tE g Wx C (.dic [] [])) := PE.weak pe_dnewK fun σ H Q ⟨Φ, W, ρ, S, s, p⟩ a ha => by
  rw [ev, evs] at p
  have p : Pst g Wx σ (Own ρ σ) Φ H W (RV g σ) (if ([] : List Key).length = ([] : List D).length ∧ ([] : List Key).Nodup ∧ ([] : List Key).length ≤ 15 then (.ok (.fz (.dic [])) ρ S : Rs Vl) else .no) Q := p
  rw [if_pos ⟨rfl, List.nodup_nil, Nat.zero_le _⟩] at p
  exact p (.ref a) _ _ W (LS.newF s ha) (s.newF ha) (.dic upd_same .nil)
/-- d["k"] -/
theorem rpk_get {w : Wr} {k : Key} : ∀ {kvs : List (Key × V)} {ds : List (Key × D)} {d : D}, RpK g w Φ kvs ds → keyG k ds = some d → ∃ v, valV kvs k = some v ∧ Rp g w Φ v d
  | _, _, _, .nil, e => by cases e
  | _, _, d, .cons (k := k') (d := d') h r, e => by
    unfold keyG at e
    by_cases hk : k' = k
    · rw [if_pos hk] at e
      cases e
      exact ⟨_, valV_pos hk, h⟩
    · rw [if_neg hk] at e
      obtain ⟨v, h1, h2⟩ := rpk_get r e
      exact ⟨v, by rw [valV_neg hk]; exact h1, h2⟩
theorem keyD_some {k : Str} {d : D} {v : Vl} (h : keyD k d = some v) : ∃ kvs x, d = .dic kvs ∧ keyG (.inr k) kvs = some x ∧ v = .fz x := by
  cases d with
  | dic kvs =>
    have h : (keyG (.inr k) kvs).map Vl.fz = some v := h
    cases e : keyG (.inr k) kvs with
    | none => rw [e] at h; cases h
    | some x => rw [e] at h; cases h; exact ⟨kvs, x, rfl, e, rfl⟩
  | _ => cases h
theorem Nw.dic {w : Wr} {x : V} {kvs : List (Key × D)} (h : Nw g w Φ H x (.dic kvs)) : ∃ a vs, x = .ref a ∧ Φ a = some (.dK vs) ∧ RpK g w Φ vs kvs := by
  rcases h with h | ⟨_, _, _, _, e, _⟩
  · cases h with
    | dic h r => exact ⟨_, _, rfl, h, r⟩
  · cases e
theorem tE_key {o : Expr} {ma : E} {k : Str} {j : Nat} {p pos : Pos} (hu : X.A.units + 1 < cLine) (ho : PE X o (tO g Wx C ma)) : PE X (.Subscript o (.Constant (.str k) j p) pos) (tE g Wx C (.key ma k)) := PE.weak (pe_dget hu ho pe_str noSl_con) fun σ H Q ⟨Φ, W, ρ, S, s, p⟩ => by
  rw [ev] at p
  refine ⟨Φ, W, ρ, S, s, Pst.bindO early_RV p fun c ρ1 S1 x Φ1 H1 W1 l s1 q p1 => ?_⟩
  cases e : c.get ρ1 with
  | none => rw [e] at p1; exact p1.elim
  | some d =>
    rw [e] at p1
    have p1 : Pst g Wx σ (Own ρ1 σ) Φ1 H1 W1 (RV g σ) (lift (keyD k d) ρ1 S1) Q := p1
    cases e2 : keyD k d with
    | none => rw [e2] at p1; exact p1.elim
    | some u =>
      rw [e2] at p1
      obtain ⟨kvs, x0, rfl, e3, rfl⟩ := keyD_some e2
      obtain ⟨a, vs, rfl, h1, r⟩ := (q.now s1 e).dic
      obtain ⟨y, h2, ry⟩ := rpk_get r e3
      refine ⟨a, y, rfl, ?_, Pst.okv (a := Vl.fz x0) p1 s1 ry⟩
      have g1 := DGet.k (k := .inr k) (s1.sub _ _ h1)
      rw [h2] at g1
      exact g1
/-! ### instances -/
theorem rpf_get {w : Wr} {f : Str} : ∀ {fs : List (Str × V)} {ds : List (Str × D)} {d : D}, RpF g w Φ fs ds → ds.lookup f = some d → ∃ v, fs.lookup f = some v ∧ Rp g w Φ v d
  | _, _, _, .nil, e => by cases e
  | _, _, d, .cons (k := k') (d := d') h r, e => by
    rw [List.lookup_cons] at e
    by_cases hk : f = k'
    · subst hk
      rw [beq_self_eq_true] at e
      cases e
      refine ⟨_, ?_, h⟩
      rw [List.lookup_cons, beq_self_eq_true]
    · have e2 : (f == k') = false := beq_eq_false_iff_ne.mpr hk
      rw [e2] at e
      obtain ⟨v, h1, h2⟩ := rpf_get r e
      refine ⟨v, ?_, h2⟩
      rw [List.lookup_cons, e2]
      exact h1
theorem rpf_keys {w : Wr} : ∀ {fs : List (Str × V)} {ds : List (Str × D)}, RpF g w Φ fs ds → fs.map (·.1) = ds.map (·.1)
  | _, _, .nil => rfl
  | _, _, .cons _ r => congrArg (_ :: ·) (rpf_keys r)
theorem lookup_mem {β : Type} {f : Str} : ∀ {l : List (Str × β)} {v : β}, l.lookup f = some v → f ∈ l.map (·.1)
  | [], _, h => by cases h
  | (k, x) :: r, v, h => by
    rw [List.lookup_cons] at h
    by_cases hk : f = k
    · subst hk; exact List.mem_cons_self
    · rw [beq_eq_false_iff_ne.mpr hk] at h
      exact List.mem_cons_of_mem _ (lookup_mem h)
theorem lookup_none {β γ : Type} {f : Str} {l : List (Str × β)} {m : List (Str × γ)} (e : l.map (·.1) = m.map (·.1)) (h : l.lookup f = none) : m.lookup f = none := by
  cases q : m.lookup f with
  | none => rfl
  | some v =>
    have h2 := lookup_mem q
    rw [← e] at h2
    exfalso
    have key : ∀ {l : List (Str × β)}, f ∈ l.map (·.1) → l.lookup f ≠ none := by
      intro l
      induction l with
      | nil => intro z; cases z
      | cons p r ih =>
        intro z
        obtain ⟨k, x⟩ := p
        rw [List.lookup_cons]
        by_cases hk : f = k
        · subst hk; rw [beq_self_eq_true]; exact fun z => nomatch z
        · rw [beq_eq_false_iff_ne.mpr hk]
          rcases List.mem_cons.mp z with rfl | z
          · exact absurd rfl hk
          · exact ih z
    exact key h2 h
/-- e.f -/
theorem tE_fld {e : Expr} {m : E} {f : Str} {pos : Pos} (hK : X.K = g.K) (he : PE X e (tE g Wx C m)) (hb : attributeBase e f X.env (eval e X.env) = eval e X.env) : PE X (.Attribute e f pos) (tE g Wx C (.fld m f)) := PE.weak (pe_fld he hb) fun σ H Q ⟨Φ, W, ρ, S, s, p⟩ => by
  rw [ev] at p
  refine ⟨Φ, W, ρ, S, s, Pst.bindF early_RV p fun c ρ1 S1 x Φ1 H1 W1 l s1 r p1 => ?_⟩
  cases ed : c.d with
  | obj cc fs =>
    rw [ed] at p1 r
    have p1 : Pst g Wx σ (Own ρ1 σ) Φ1 H1 W1 (RV g σ) ((lift (fs.lookup f) ρ1 S1).bind fun d ρ S => .ok (.fz d) ρ S) Q := p1
    cases el : fs.lookup f with
    | none => rw [el] at p1; exact p1.elim
    | some d =>
      rw [el] at p1
      cases r with
      | @obj a dx _ vs _ h1 hc hr =>
        obtain ⟨v, h2, rv⟩ := rpf_get hr el
        have hc' : ClsK g cc (vs.map (·.1)) := hc
        refine ⟨a, g.cls cc, dx, vs, v, rfl, s1.sub _ _ h1, by rw [hK]; exact hc'.1, by rw [hK]; exact hc'.2.1 f (lookup_mem h2), h2, Pst.okv (a := Vl.fz d) p1 s1 rv⟩
  | _ => rw [ed] at p1; exact p1.elim
/-! ### methods -/
theorem meth_tree {o : Expr} {m : Str} {apos pos : Pos} {args : List Expr} {env : Env} (hb : attributeBase o m env (eval o env) = eval o env) (hform : methodCallForm (args.length + ([] : List Keyword).length) (backTo pos (starEach args env)) (backToKw pos (keywordEach [] env)) = true) (hline : (apos.endLine == pos.line) = true) :
    eval (.Call (.Attribute o m apos) args [] pos) env = (do
      let ov ← eval o env
      standAt apos.atName
      let (f, first) ← holding [ov] (getMethod ov m (do return (← importBound o env).getD true))
      callWith pos f first (backTo pos (starEach args env)) (backToKw pos (keywordEach [] env))) := by
  refine mcall_of hb fun ov => ?_
  unfold methodCall
  rw [hform]
  have e1 : methodCallPos true o env apos pos = pure pos := by
    unfold methodCallPos
    rw [hline]
    rfl
  rw [e1]
  rfl
def tMethG (X : Cx) (k : Nat) (m : Str) (E : L2.St → XK) (ta : TE) (t : TA) : TE := fun σ H Q => ta σ H fun x H1 => ∃ (a : Addr) (C : Addr) (dx : Addr) (fs : List (Str × V)) (f : Addr) (fd : FuncData) (ps : List Str) (sp : Sp), x = .ref a ∧ H1 a = some (.ins C dx fs) ∧ Cls X.K C ∧ Meth X.K C m f ∧ fs.lookup m = none ∧ Binds X.K fd ps [] ∧
  FnG X.prog X.w X.K X.mg X.base k f fd ps sp ∧ t σ H1 fun vs H2 => sp (.ref a :: vs) H2 Q (E σ)
theorem pe_methG {E : L2.St → XK} {k : Nat} {m : Str} {o e : Expr} {es : List Expr} {ta : TE} {t : TA} {apos pos : Pos} (he : PE X o ta) (hr : Room k X.A) (hgu : X.A.guards = some []) (hx : ∀ σ, PassesAt (L2.CX X.prog X.w) X σ (E σ)) (ha : PA X (e :: es) t)
    (hst : starEach (e :: es) X.env = (false, eval e X.env) :: starEach es X.env) (hpl : (backTo pos (starEach es X.env)).any (·.1) = false)
    (hb : attributeBase o m X.env (eval o X.env) = eval o X.env) (hform : methodCallForm ((e :: es).length + ([] : List Keyword).length) (backTo pos (starEach (e :: es) X.env)) (backToKw pos (keywordEach [] X.env)) = true) (hline : (apos.endLine == pos.line) = true) :
    PE X (.Call (.Attribute o m apos) (e :: es) [] pos) (tMethG X k m E ta t) := by
  refine ⟨fun pins s σ H Q I h => ?_⟩
  refine PySem.W.methodCall_KW (thn (he.run pins s σ H _ I h) fun u s1 ⟨x, H1, I1, rx, a, C, dx, fs, f, fd, ps, sp, ex, ea, c, hm, l, hbd, F, q⟩ => ?_) (meth_tree hb hform hline)
  subst ex
  obtain rfl : u = Value.ref a := rx
  refine getmeth_ok I1 ea c hm l ?_
  refine PySem.W.callWith_K (first := [.ref a]) (h₀ := X.base) I.ok.mod.kin hm.kp (thn (ha.run pos pins s1 σ H1 _ I1 q) fun us s2 ⟨vs, H2, I2, r, q2⟩ => ⟨I2.kIn, ?_⟩) hst hpl
  exact run_fnG (us := .ref a :: us) (vs := .ref a :: vs) F hr hgu hbd (hx σ) I2 (.cons rfl r) q2
theorem pe_methG0 {E : L2.St → XK} {k : Nat} {m : Str} {o : Expr} {ta : TE} {apos pos : Pos} (he : PE X o ta) (hr : Room k X.A) (hgu : X.A.guards = some []) (hx : ∀ σ, PassesAt (L2.CX X.prog X.w) X σ (E σ))
    (hb : attributeBase o m X.env (eval o X.env) = eval o X.env) (hline : (apos.endLine == pos.line) = true) : PE X (.Call (.Attribute o m apos) [] [] pos) (tMethG X k m E ta tNil) := by
  refine ⟨fun pins s σ H Q I h => ?_⟩
  refine PySem.W.methodCall_KW (thn (he.run pins s σ H _ I h) fun u s1 ⟨x, H1, I1, rx, a, C, dx, fs, f, fd, ps, sp, ex, ea, c, hm, l, hbd, F, q⟩ => ?_) (meth_tree hb rfl hline)
  subst ex
  obtain rfl : u = Value.ref a := rx
  refine getmeth_ok I1 ea c hm l ?_
  exact PySem.W.callWith_K0 (first := [.ref a]) I1.kIn hm.kp (run_fnG (us := [.ref a]) (vs := [.ref a]) F hr hgu hbd (hx σ) I1 (.cons rfl .nil) q)
/-- what is known of methods -/
def MethK (g : Gl0) (X : Cx) (C : Cal) (k : Nat) : Prop := ∀ (c : Nat) (m : Str) (ds : List D) (S : So), C.call (.m c m) ds S ≠ .no → ∃ f fd ps, Meth X.K (g.cls c) m f ∧ Binds X.K fd ps [] ∧ ps.length = ds.length ∧ FnG X.prog X.w X.K X.mg X.base k f fd ps (spD g (C.call (.m c m)) ds.length)
theorem recv_some {d : D} {m : Str} {f : Fn} (h : recv d m = some f) : ∃ c fs, d = .obj c fs ∧ fs.lookup m = none ∧ f = .m c m := by
  cases d with
  | obj c fs =>
    have h : (if (fs.lookup m).isNone then some (Fn.m c m) else none) = some f := h
    split at h
    · rename_i e
      cases h
      exact ⟨c, fs, rfl, by simpa using e, rfl⟩
    · cases h
  | _ => cases h
theorem tE_meth {e : Expr} {m : Str} {mo : E} {ms : List E} {k : Nat} {t : TA} (hK : X.K = g.K) (mk : MethK g X C k) (hA : ∀ σ H Q, tA g Wx C ms σ H Q → t σ H Q)
    (hE : PE X e (tMethG X k m (WE Wx) (tE g Wx C mo) t)) : PE X e (tE g Wx C (.meth m mo ms)) := PE.weak hE fun σ H Q ⟨Φ, W, ρ, S, s, p⟩ => by
  rw [ev] at p
  refine ⟨Φ, W, ρ, S, s, Pst.bindF early_RV p fun v ρ1 S1 x Φ1 H1 W1 l s1 r p1 => ?_⟩
  cases er : recv v.d m with
  | none => rw [er] at p1; exact p1.elim
  | some fn =>
    rw [er] at p1
    have p1 : Pst g Wx σ (Own ρ1 σ) Φ1 H1 W1 (RV g σ) (argsOk (evs C ms ρ1 S1) fun ds ρ S => (C.call fn (v.d :: ds) S).rs' ρ) Q := p1
    obtain ⟨c, fs, ed, hl, rfl⟩ := recv_some er
    cases ea : evs C ms ρ1 S1 with
    | no => rw [ea] at p1; exact p1.elim
    | rs x ρ2 S2 => rw [ea] at p1; exact p1.elim
    | ok ds ρ2 S2 =>
      rw [ea] at p1
      have p1 : Pst g Wx σ (Own ρ1 σ) Φ1 H1 W1 (RV g σ) ((C.call (.m c m) (v.d :: ds) S2).rs' ρ2) Q := p1
      have hno : C.call (.m c m) (v.d :: ds) S2 ≠ .no := fun z => by rw [z] at p1; exact p1
      obtain ⟨f, fd, ps, hm, hbd, hlen, F⟩ := mk c m _ _ hno
      rw [ed] at r
      cases r with
      | @obj a dx _ vs _ h1 hc hr =>
        refine ⟨a, g.cls c, dx, vs, f, fd, ps, _, rfl, s1.sub _ _ h1, by rw [hK]; exact hc.1, hm, lookup_none (rpf_keys hr).symm hl, hbd, F, hA _ _ _ ⟨Φ1, W1, ρ1, S1, s1, ?_⟩⟩
        show Pst g Wx σ (Own ρ1 σ) Φ1 H1 W1 (RL g) (evs C ms ρ1 S1) _
        rw [ea]
        intro us Φ2 H2 W2 l2 s2 rr
        have rr : Rps g W2.w Φ2 us ds := rr
        have hl2 := evs_length _ _ _ ea
        have ro : Rp g W2.w Φ2 (.ref a) v.d := by
          rw [ed]
          exact (Rp.obj h1 hc hr).mono l2.mono l2.wsub
        refine ⟨?_, Φ2, W2, v.d :: ds, S2, s2.sub, s2.src, .cons ro rr, rcp_of (Wx := Wx) s2 (Pst.shift early_RV l2 p1)⟩
        rw [List.length_cons, List.length_cons, rr.length]
end
end VI
set_option Elab.async false
set_option linter.all false
set_option maxRecDepth 100000
set_option maxHeartbeats 4000000
/-! VIu: instances of the text's classes are made. -/
namespace VI
open PySem PySem.Spec PyProof.Rows L2
/-- an instance that is being made: at x, with these fields -/
structure IS (g : Gl0) (c : Nat) (x dx : Addr) (fvs : List (Str × V)) (ds : List (Str × D)) (Φ H : Hp) (W : Wd) (ρ : Rho) (S : So) (σ : L2.St) : Prop where
  st : Stt g Φ H W ρ S σ
  me : σ[0]? = some (some (.ref x))
  at_ : H x = some (.ins (g.cls c) dx fvs)
  rp : RpF g W.w Φ fvs ds
  ph : Φ x = none
  nf : ¬ W.fp x
  no : ¬ Own ρ σ x
def PIm (g : Gl0) (Wx : WX) (c : Nat) (x dx : Addr) (O : Addr → Prop) (Φ H : Hp) (W : Wd) (fin : List D → List (Str × D)) (Z : Ends) : Rs (List D) → Prop
  | .ok ds ρ' S' => ∀ (σ' : L2.St) (Φ' H' : Hp) (W' : Wd) (fvs : List (Str × V)), LS O Φ H W (fun a => Own ρ' σ' a ∨ a = x) Φ' H' W' → IS g c x dx fvs (fin ds) Φ' H' W' ρ' S' σ' → Z.nx σ' H'
  | .rs e ρ' S' => ∀ (cc : Value) (d : Option Addr) (σ' : L2.St) (Φ' H' : Hp) (W' : Wd), LS O Φ H W (fun a => Own ρ' σ' a ∨ a = x) Φ' H' W' → Stt g Φ' H' W' ρ' S' σ' → XOk g Φ' H' W' e cc d → Wx cc d σ' H'
  | .no => False
def tIn (g : Gl0) (Wx : WX) (c : Nat) (r : Rho → So → Rs (List D)) (fin : List D → List (Str × D)) (done : List (Str × D)) : TS := fun D σ H =>
  ∃ Φ W ρ S x dx fvs, IS g c x dx fvs done Φ H W ρ S σ ∧ PIm g Wx c x dx (fun a => Own ρ σ a ∨ a = x) Φ H W fin D (r ρ S)
section
variable {g : Gl0} {Wx : WX} {C : Cal} {X : Cx} {σ : L2.St} {O O1 O2 : Addr → Prop} {Φ H Φ1 H1 H0 Φ0 : Hp} {W W1 W0 : Wd} {ρ ρ1 : Rho} {S S1 : So} {i c : Nat} {b : V} {v : Vl} {x dx : Addr} {D : Ends} {fin : List VI.D → List (Str × VI.D)}
theorem PIm.shift {r : Rs (List VI.D)} (l : LS O Φ H W O1 Φ1 H1 W1) (h : PIm g Wx c x dx O Φ H W fin D r) : PIm g Wx c x dx O1 Φ1 H1 W1 fin D r := by
  cases r with
  | ok ds ρ' S' => exact fun σ' Φ' H' W' fvs l' s => h σ' Φ' H' W' fvs (l.trans l') s
  | rs e ρ' S' => exact fun cc d σ' Φ' H' W' l' s => h cc d σ' Φ' H' W' (l.trans l') s
  | no => exact h
theorem LS.wide (l : LS O Φ H W O1 Φ1 H1 W1) : LS (fun a => O a ∨ a = x) Φ H W (fun a => O1 a ∨ a = x) Φ1 H1 W1 :=
  ⟨l.mono, fun a o h nf no => l.keep a o h nf fun z => no (.inl z), fun a h no => l.frz a h fun z => no (.inl z), l.wfp, l.wsub, l.live, fun a z => z.elim (fun z => (l.own a z).imp .inl id) fun z => .inl (.inr z)⟩
/-- behind a step from a state with an instance in the making -/
theorem IS.after {fvs : List (Str × V)} {ds : List (Str × VI.D)} (is : IS g c x dx fvs ds Φ H W ρ S σ) (l : LS (Own ρ σ) Φ H W (Own ρ1 σ) Φ1 H1 W1) (s : Stt g Φ1 H1 W1 ρ1 S1 σ) : IS g c x dx fvs ds Φ1 H1 W1 ρ1 S1 σ := by
  have hn : H x ≠ none := by rw [is.at_]; exact fun z => nomatch z
  exact ⟨s, is.me, l.keep x _ is.at_ is.nf is.no, is.rp.mono l.mono l.wsub, (l.frz x hn is.no).trans is.ph, fun z => (l.wfp x z).elim is.nf hn, fun z => (l.own x z).elim is.no hn⟩
theorem putF_new {f : Str} {y : V} : ∀ {fs : List (Str × V)}, f ∉ fs.map (·.1) → putF f y fs = fs ++ [(f, y)]
  | [], _ => rfl
  | (k, z) :: r, h => by
    have hk : ¬ k = f := fun e => h (by rw [List.map_cons, e]; exact List.mem_cons_self)
    show (if k = f then (k, y) :: r else (k, z) :: putF f y r) = _
    rw [if_neg hk, putF_new fun q => h (List.mem_cons_of_mem _ q)]
    rfl
theorem rpf_append {w : Wr} : ∀ {fs : List (Str × V)} {ds : List (Str × VI.D)} {f : Str} {y : V} {d : VI.D}, RpF g w Φ fs ds → Rp g w Φ y d → RpF g w Φ (fs ++ [(f, y)]) (ds ++ [(f, d)])
  | _, _, _, _, _, .nil, h => .cons h .nil
  | _, _, _, _, _, .cons q r, h => .cons q (rpf_append r h)
theorem swaps_attr {e o : Expr} {f : Str} {p : Pos} {line : Nat} {env : Env} : swapsWith e (some (.Attribute o f p)) line env = pure false := by
  cases e <;> rfl
/-- self.f = e; .. -/
inductive Flds (g : Gl0) (Wx : WX) (C : Cal) (X : Cx) : List Stmt → List Str → List E → Prop
  | nil : Flds g Wx C X [] [] []
  | cons {o e : Expr} {m : E} {f : Str} {p pos : Pos} {ss : List Stmt} {fns : List Str} {ms : List E} : PE X o (tVar 0) → PE X e (tE g Wx C m) → Flds g Wx C X ss fns ms → Flds g Wx C X (.Assign [.Attribute o f p] e pos :: ss) (f :: fns) (m :: ms)
theorem flds_ok (hK : X.K = g.K) : ∀ {ss : List Stmt} {fns : List Str} {ms : List E}, Flds g Wx C X ss fns ms → ∀ (done : List (Str × VI.D)), ClsK g c (done.map (·.1) ++ fns) → (done.map (·.1) ++ fns).Nodup → done.length + fns.length ≤ 1000 → PSs X ss (tIn g Wx c (evs C ms) (fun ds => done ++ fns.zip ds) done)
  | _, _, _, .nil, done, _, _, _ => PSs.weak pss_nil fun D σ H ⟨Φ, W, ρ, S, x, dx, fvs, is, p⟩ => by
    rw [evs] at p
    exact p σ Φ H W fvs LS.refl (by show IS g c x dx fvs (done ++ ([] : List Str).zip ([] : List VI.D)) Φ H W ρ S σ; rw [List.zip_nil_left, List.append_nil]; exact is)
  | _, _, _, .cons (m := m) (f := f) (fns := fns) (ms := ms) ho he r, done, hc, hn, hl => by
    have hf : f ∉ done.map (·.1) := fun z => (List.nodup_append.mp hn).2.2 f z f List.mem_cons_self rfl
    have ea : ∀ d : VI.D, (done ++ [(f, d)]).map (·.1) ++ fns = done.map (·.1) ++ f :: fns := fun d => by rw [List.map_append, List.append_assoc]; rfl
    have ih := fun d : VI.D => flds_ok hK r (done ++ [(f, d)]) (by rw [ea]; exact hc) (by rw [ea]; exact hn) (by rw [List.length_append, List.length_singleton]; rw [List.length_cons] at hl; omega)
    have ih2 : PSs X _ (fun D σ H => ∃ d, tIn g Wx c (evs C ms) (fun ds => (done ++ [(f, d)]) ++ fns.zip ds) (done ++ [(f, d)]) D σ H) := ⟨fun pins s σ H D I ⟨d, h⟩ => (ih d).run pins s σ H D I h⟩
    refine PSs.weak (pss_cons (ps_fld ho he swaps_attr) ih2) fun D σ H ⟨Φ, W, ρ, S, x, dx, fvs, is, p⟩ => ?_
    rw [evs] at p
    refine ⟨Φ, W, ρ, S, is.st, ?_⟩
    cases em : ev C m ρ S with
    | no => rw [em] at p; exact p.elim
    | rs e ρ' S' => rw [em] at p; exact fun cc d Φ' H' W' l s q => p cc d σ Φ' H' W' l.wide s q
    | ok v ρ1 S1 =>
      rw [em] at p
      intro y Φ1 H1 W1 l s1 q
      obtain ⟨Φ2, e2, l2, s2, r2⟩ := told l s1 q
      have is2 := is.after l2 s2
      have hk := rpf_keys is2.rp
      have hlen : fvs.length = done.length := by have := congrArg List.length hk; simpa using this
      have hc' : ClsK g c (done.map (·.1) ++ f :: fns) := hc
      refine ⟨.ref x, is.me, x, g.cls c, dx, fvs, rfl, is2.at_, by rw [hK]; exact hc'.1, by rw [hK]; exact hc'.2.1 f (by simp), by rw [List.length_cons] at hl; omega, v.d, Φ2, W1, ρ1, S1, x, dx, fvs ++ [(f, y)], ?_, ?_⟩
      · rw [putF_new (by rw [hk]; exact hf)]
        exact ⟨s2.beside is2.ph is2.nf is2.no, is.me, upd_same, rpf_append is2.rp r2, is2.ph, is2.nf, is2.no⟩
      · have p1 : PIm g Wx c x dx (fun a => Own ρ σ a ∨ a = x) Φ H W (fun ds => (done ++ [(f, v.d)]) ++ fns.zip ds) D (evs C ms ρ1 S1) := by
          have p : PIm g Wx c x dx (fun a => Own ρ σ a ∨ a = x) Φ H W (fun ds => done ++ (f :: fns).zip ds) D ((evs C ms ρ1 S1).bind fun ds ρ S => .ok (v.d :: ds) ρ S) := p
          cases em2 : evs C ms ρ1 S1 with
          | ok ds ρ2 S2 =>
            rw [em2] at p
            have e3 : (done ++ [(f, v.d)]) ++ fns.zip ds = done ++ (f :: fns).zip (v.d :: ds) := by rw [List.append_assoc]; rfl
            intro σ' Φ' H' W' fvs' l' is'
            exact p σ' Φ' H' W' fvs' l' (by show IS g c x dx fvs' (done ++ (f :: fns).zip (v.d :: ds)) Φ' H' W' ρ2 S2 σ'; rw [← e3]; exact is')
          | rs e ρ2 S2 => rw [em2] at p; exact p
          | no => rw [em2] at p; exact p
        refine p1.shift ?_
        have lw := l2.wide (x := x)
        refine ⟨lw.mono, fun a o h nf no => ?_, lw.frz, lw.wfp, lw.wsub, fun a h => ?_, lw.own⟩
        · exact (upd_ne fun z => no (.inr z)).trans (lw.keep a o h nf no)
        · unfold L2.upd
          split
          · exact fun z => nomatch z
          · exact lw.live a h
/-- what an __init__ does ahead -/
inductive Pres (g : Gl0) (Wx : WX) (C : Cal) (X : Cx) : List Stmt → List Pre → Prop
  | nil : Pres g Wx C X [] []
  | let_ {y : Str} {e : Expr} {m : E} {i : Nat} {p pos : Pos} {ss : List Stmt} {ms : List Pre} : X.N[i + 1]? = some y → Loc X.env.scope y → (X.fn y = true ∨ X.env.scope.names.lookup y = some .local) → swapsWith e (some (.Name y p)) pos.line X.env = pure false → PE X e (tE g Wx C m) → Pres g Wx C X ss ms → Pres g Wx C X (.Assign [.Name y p] e pos :: ss) (.let_ (i + 1) m :: ms)
  | chk {e : Expr} {m : E} {pos : Pos} {rs : List Stmt} {ss : List Stmt} {ms : List Pre} : PT X e (tT g Wx C m) → Pres g Wx C X ss ms → Pres g Wx C X (.If e rs [] pos :: ss) (.chk m :: ms)
  | rs {e : Expr} {m : E} {pos : Pos} {rs : List Stmt} {bs : List VI.S} {ss : List Stmt} {ms : List Pre} : PT X e (tT g Wx C m) → PSs X rs (tS g Wx (exs C bs)) → Pres g Wx C X ss ms → Pres g Wx C X (.If e rs [] pos :: ss) (.rs m bs :: ms)
theorem pres_ok (hN : X.N.Nodup) {fs : List Stmt} {f : Rho → So → Rs (List VI.D)} (hf : PSs X fs (tIn g Wx c f fin [])) : ∀ {ss : List Stmt} {ms : List Pre}, Pres g Wx C X ss ms → PSs X (ss ++ fs) (tIn g Wx c (preE C f ms) fin [])
  | _, _, .nil => hf
  | _, _, .let_ (m := m) (i := i) (ms := ms) hi hx hv hs he r => by
    refine PSs.weak (pss_cons (ps_set hN hi hx he hs hv) (pres_ok hN hf r)) fun D σ H ⟨Φ, W, ρ, S, x, dx, fvs, is, p⟩ => ?_
    rw [preE] at p
    refine ⟨Φ, W, ρ, S, is.st, ?_⟩
    cases em : ev C m ρ S with
    | no => rw [em] at p; exact p.elim
    | rs e ρ' S' => rw [em] at p; exact fun cc d Φ' H' W' l s q => p cc d σ Φ' H' W' l.wide s q
    | ok v ρ1 S1 =>
      rw [em] at p
      intro y Φ1 H1 W1 l s1 q
      have q : VOk g H y Φ1 H1 W1 (Own ρ1 σ) v := q
      have is1 := is.after l s1
      refine ⟨Φ1, W1, ρ1.set (i + 1) (some v), S1, x, dx, fvs, ⟨s1.set q, ?_, is1.at_, is1.rp, is1.ph, is1.nf, fun z => ?_⟩, PIm.shift ?_ p⟩
      · rw [List.getElem?_set_ne (by omega)]; exact is.me
      · rcases own_set s1 z with z | ⟨xs, rfl, rfl⟩
        · exact is1.no z
        · obtain ⟨p', vs, z1, _, _, _, _, _, z7⟩ := q
          cases z1
          rw [is.at_] at z7
          cases z7
      · exact (l.set s1 q).wide
  | _, _, .chk (m := m) (ms := ms) he r => by
    refine PSs.weak (pss_cons (ps_if he pss_never pss_nil) (pres_ok hN hf r)) fun D σ H ⟨Φ, W, ρ, S, x, dx, fvs, is, p⟩ => ?_
    rw [preE] at p
    refine ⟨Φ, W, ρ, S, is.st, ?_⟩
    show Pst g Wx σ (Own ρ σ) Φ H W RB (tru (ev C m ρ S)) _
    cases em : tru (ev C m ρ S) with
    | no => rw [em] at p; exact p.elim
    | rs e ρ' S' => rw [em] at p; exact fun cc d Φ' H' W' l s q => p cc d σ Φ' H' W' l.wide s q
    | ok q ρ1 S1 =>
      rw [em] at p
      intro q' Φ1 H1 W1 l s1 e
      have e : q' = q := e
      subst e
      cases q' with
      | true => exact (show False from p).elim
      | false => exact ⟨Φ1, W1, ρ1, S1, x, dx, fvs, is.after l s1, PIm.shift l.wide p⟩
  | _, _, .rs (m := m) (bs := bs) (ms := ms) he hb r => by
    refine PSs.weak (pss_cons (ps_if he hb pss_nil) (pres_ok hN hf r)) fun D σ H ⟨Φ, W, ρ, S, x, dx, fvs, is, p⟩ => ?_
    rw [preE] at p
    refine ⟨Φ, W, ρ, S, is.st, ?_⟩
    show Pst g Wx σ (Own ρ σ) Φ H W RB (tru (ev C m ρ S)) _
    cases em : tru (ev C m ρ S) with
    | no => rw [em] at p; exact p.elim
    | rs e ρ' S' => rw [em] at p; exact fun cc d Φ' H' W' l s q => p cc d σ Φ' H' W' l.wide s q
    | ok q ρ1 S1 =>
      rw [em] at p
      intro q' Φ1 H1 W1 l s1 e
      have e : q' = q := e
      subst e
      cases q' with
      | true =>
        refine ⟨Φ1, W1, ρ1, S1, s1, ?_⟩
        have p : PIm g Wx c x dx (fun a => Own ρ σ a ∨ a = x) Φ H W fin D (rsOf (exs C bs ρ1 S1)) := p
        cases eb : exs C bs ρ1 S1 with
        | rs e ρ2 S2 => rw [eb] at p; exact fun cc d σ' Φ' H' W' l' s q => p cc d σ' Φ' H' W' (l.trans l').wide s q
        | nx ρ2 S2 => rw [eb] at p; exact (show False from p).elim
        | bk ρ2 S2 => rw [eb] at p; exact (show False from p).elim
        | ct ρ2 S2 => rw [eb] at p; exact (show False from p).elim
        | rt v ρ2 S2 => rw [eb] at p; exact (show False from p).elim
        | no => rw [eb] at p; exact (show False from p).elim
      | false => exact ⟨Φ1, W1, ρ1, S1, x, dx, fvs, is.after l s1, PIm.shift l.wide p⟩
/-! ### the promise of an __init__, the call of a class -/
def RcI (g : Gl0) (c : Nat) (x dx : Addr) (Φ H : Hp) (W : Wd) (Q : VK) (E : XK) : Rc → Prop
  | .ok v S' => ∀ fs, v = .fz (.obj c fs) → ∀ (Φ' H' : Hp) (W' : Wd) (fvs : List (Str × V)), LS (· = x) Φ H W (· = x) Φ' H' W' → Same Φ' H' → SrcOk g W' S' Φ' H' → H' x = some (.ins (g.cls c) dx fvs) → RpF g W'.w Φ' fvs fs → ClsK g c (fvs.map (·.1)) → Φ' x = none → ¬ W'.fp x → Q .non H'
  | .rs e S' => ∀ (cc : Value) (d : Option Addr) (Φ' H' : Hp) (W' : Wd), LS (· = x) Φ H W (· = x) Φ' H' W' → Same Φ' H' → SrcOk g W' S' Φ' H' → XOk g Φ' H' W' e cc d → E cc d H'
  | .no => False
def spI (g : Gl0) (c : Nat) (r : List VI.D → So → Rc) (np : Nat) : Sp := fun vs H Q E => vs.length = np + 1 ∧ ∃ x dx us, vs = .ref x :: us ∧ H x = some (.ins (g.cls c) dx []) ∧ ∃ Φ W ds S, Same Φ H ∧ SrcOk g W S Φ H ∧ Rps g W.w Φ us ds ∧ Φ x = none ∧ ¬ W.fp x ∧ RcI g c x dx Φ H W Q E (r ds S)
def tMakeG (C0 : Addr) (sp : Sp) (E : L2.St → XK) (t : TA) : TE := fun σ H Q => t σ H fun vs H1 => ∀ x dx, H1 x = none → H1 dx = none → dx ≠ x → sp (.ref x :: vs) (upd (upd H1 dx (.own x)) x (.ins C0 dx [])) (fun v H2 => v = .non ∧ Q (.ref x) H2) (E σ)
theorem run_makeG {E : L2.St → XK} {pins : List (Addr × Obj)} {s : Shared} {Q : VK} {us : List Value} {vs : List V} {C0 f : Addr} {k : Nat} {fd : FuncData} {ps : List Str} {sp : Sp} (M : Mk X.K C0 f) (F : FnG X.prog X.w X.K X.mg X.base k f fd ps sp) (hr : RoomX k X.A) (hgu : X.A.guards = some []) (hb : Binds X.K fd ps [])
    (hx : PassesAt (L2.CX X.prog X.w) X σ (E σ)) (I : L2.Inv X pins σ H s) (r : Vals vs us)
    (h : ∀ x dx, H x = none → H dx = none → dx ≠ x → sp (.ref x :: vs) (upd (upd H dx (.own x)) x (.ins C0 dx [])) (fun v H2 => v = .non ∧ Q (.ref x) H2) (E σ)) :
    wpAny (model X.prog X.w) X.A (call (.ref C0) us) (EP X pins σ Q) X.xe s := by
  have hq := h (s.heap.objs.size + 1) s.heap.objs.size (I.hok.fresh (Nat.le_succ _)) (I.hok.fresh (Nat.le_refl _)) (Nat.ne_of_lt (Nat.lt_succ_self _))
  have I2 := Inv.made (C := C0) I
  have r2 : Vals (V.ref (s.heap.objs.size + 1) :: vs) (Value.ref (s.heap.objs.size + 1) :: us) := .cons rfl r
  have hl : (Value.ref (s.heap.objs.size + 1) :: us).length = ps.length := by
    rw [← r2.length]
    exact F.len _ _ _ _ hq
  have bb := hb _ (Value.ref (s.heap.objs.size + 1) :: us) I2.kIn (by rw [List.append_nil]; exact hl)
  rw [List.append_nil] at bb
  refine wpAny_call (make_map (f := f) I.kIn M.makes M.init (beq_iff_eq.mp M.fn) (codeAny_mono (F.run _ X.stack _ _ ⟨Value.ref (s.heap.objs.size + 1) :: us, []⟩ (Value.ref (s.heap.objs.size + 1) :: us) _ _ (E σ) (hr.mk_ C0 us)
    (by first | exact hgu | (rw [← hgu]; rfl)) (I2.env0.make C0 us []) bb r2 hq) fun r s' hq' => ?_))
  cases r with
  | error e => exact hx pins _ _ e s' I2 hq'
  | ok fl =>
    cases fl with
    | ret u =>
      obtain ⟨v, H', I3, rv, ev, q3⟩ := I2.after hq'
      subst ev
      exact ⟨rv, ⟨V.ref (s.heap.objs.size + 1), H', I3, rfl, q3⟩⟩
    | next => exact False.elim hq'
    | brk => exact False.elim hq'
    | cont => exact False.elim hq'
theorem pe_makeG {E : L2.St → XK} {y : Str} {p pos : Pos} {e : Expr} {es : List Expr} {t : TA} {C0 f : Addr} {k : Nat} {fd : FuncData} {ps : List Str} {sp : Sp} (M : Mk X.K C0 f) (F : FnG X.prog X.w X.K X.mg X.base k f fd ps sp) (hr : RoomX k X.A) (hgu : X.A.guards = some []) (hb : Binds X.K fd ps [])
    (hg : Gl X y) (hm : X.mg y = some (.ref C0)) (hx : ∀ σ, PassesAt (L2.CX X.prog X.w) X σ (E σ)) (ha : PA X (e :: es) t) (hdb : (y == ("__debug__" : Str)) = false) (he : starEach (e :: es) X.env = (false, eval e X.env) :: starEach es X.env)
    (hpl : (backTo pos (starEach es X.env)).any (·.1) = false) : PE X (.Call (.Name y p) (e :: es) [] pos) (tMakeG C0 sp E t) := by
  refine ⟨fun pins s σ H Q I h => ?_⟩
  refine wpAny_Call_Name_kw (ld_glob I hg hm ?_ hdb)
  refine PySem.W.callWith_K (h₀ := X.base) I.ok.mod.kin M.kp (thn (ha.run pos pins s σ H _ I h) fun us s1 ⟨vs, H1, I1, r, q⟩ => ⟨I1.kIn, ?_⟩) he hpl
  exact run_makeG M F hr hgu hb (hx σ) I1 r q
theorem isObj_some {c : Nat} {v : Vl} (h : isObj c v = true) : ∃ fs, v = .fz (.obj c fs) := by
  unfold isObj at h
  split at h
  · rename_i c' fs
    obtain rfl := eq_of_beq h
    exact ⟨fs, rfl⟩
  · cases h
/-- a later state behind a callee that changes x alone -/
theorem Stt.afterX {S' : So} {Φ' H' : Hp} {W' : Wd} (s : Stt g Φ H W ρ S σ) (no : ¬ Own ρ σ x) (l : LS (· = x) Φ H W (· = x) Φ' H' W') (sub : Same Φ' H') (src : SrcOk g W' S' Φ' H') : Stt g Φ' H' W' ρ S' σ := by
  refine ⟨sub, src, s.len, fun i u e => ?_, s.apart⟩
  obtain ⟨y, ex, ok⟩ := s.slot i u e
  refine ⟨y, ex, ?_⟩
  cases u with
  | fz d =>
    obtain ⟨v, rfl, r⟩ := ok
    exact ⟨v, rfl, r.mono l.mono l.wsub⟩
  | ow xs =>
    obtain ⟨p, vs, rfl, h1, r, h2, h3⟩ := ok
    have hp : H p ≠ none := by rw [h1]; exact fun z => nomatch z
    have px : ¬ p = x := by rintro rfl; exact no ⟨i, xs, e, ex⟩
    exact ⟨p, vs, rfl, l.keep p _ h1 h3 px, r.mono l.mono l.wsub, (l.frz p hp px).trans h2, fun z => (l.wfp p z).elim h3 hp⟩
theorem tE_make {e : Expr} {np : Nat} {ms : List E} (hE : PE X e (tMakeG (g.cls c) (spI g c (C.call (.mk c)) np) (WE Wx) (tA g Wx C ms))) (hn : ms.length = np) : PE X e (tE g Wx C (.make c ms)) := PE.weak hE fun σ H Q ⟨Φ, W, ρ, S, s, p⟩ => by
  rw [ev] at p
  refine ⟨Φ, W, ρ, S, s, Pst.bind early_RV p fun ds ρ1 S1 vs Φ1 H1 W1 eq l s1 r p1 => ?_⟩
  have r : Rps g W1.w Φ1 vs ds := r
  intro x dx hx hd hne
  have s2 := (s1.new (o := .own x) hd)
  have hx2 : (L2.upd H1 dx (.own x)) x = none := (upd_ne (Ne.symm hne)).trans hx
  have s3 := s2.new (o := .ins (g.cls c) dx []) hx2
  have l2 : LS (Own ρ1 σ) Φ1 H1 W1 (Own ρ1 σ) Φ1 (L2.upd H1 dx (.own x)) W1 := LS.new s1 hd
  have l3 := l2.trans (LS.new (o := .ins (g.cls c) dx []) s2 hx2)
  have no1 : ¬ Own ρ1 σ x := s1.nown hx
  refine ⟨by rw [List.length_cons, r.length, evs_length _ _ _ eq, hn], x, dx, vs, rfl, upd_same, Φ1, W1, ds, S1, s3.sub, s3.src, r, s1.phi hx, s1.nfp hx, ?_⟩
  have grow : ∀ {Φ' H' : Hp} {W' : Wd}, LS (· = x) Φ1 (L2.upd (L2.upd H1 dx (.own x)) x (.ins (g.cls c) dx [])) W1 (· = x) Φ' H' W' → LS (Own ρ1 σ) Φ1 H1 W1 (Own ρ1 σ) Φ' H' W' := fun {Φ' H' W'} l' => by
    have nn : ∀ a, H1 a ≠ none → (L2.upd (L2.upd H1 dx (.own x)) x (.ins (g.cls c) dx [])) a ≠ none := fun a h => l3.live a h
    have ne : ∀ a, H1 a ≠ none → ¬ a = x := by rintro a h rfl; exact h hx
    refine ⟨l'.mono, fun a o h nf no => ?_, fun a h no => l'.frz a (nn a h) (ne a h), fun a z => (l'.wfp a z).imp id fun z => ?_, l'.wsub, fun a h => l'.live a (nn a h), fun a z => .inl z⟩
    · have ha : H1 a ≠ none := by rw [h]; exact fun z => nomatch z
      exact l'.keep a o (l3.keep a o h nf no) nf (ne a ha)
    · cases q : H1 a with
      | none => rfl
      | some o => exact absurd z (nn a (by rw [q]; exact fun z => nomatch z))
  cases ec : C.call (.mk c) ds S1 with
  | no => rw [ec] at p1; exact p1.elim
  | rs e S' =>
    rw [ec] at p1
    exact fun cc d Φ' H' W' l' sub src q => p1 cc d Φ' H' W' (grow l') (s3.afterX no1 l' sub src) q
  | ok v S' =>
    rw [ec] at p1
    have p1 : Pst g Wx σ (Own ρ1 σ) Φ1 H1 W1 (RV g σ) (if isObj c v then .ok v ρ1 S' else .no) Q := p1
    cases ei : isObj c v with
    | false => rw [ei] at p1; exact (show False from p1).elim
    | true =>
      rw [ei] at p1
      have p1 : Pst g Wx σ (Own ρ1 σ) Φ1 H1 W1 (RV g σ) (.ok v ρ1 S') Q := p1
      intro fs ev Φ' H' W' fvs l' sub src hx' rf ck px nx
      subst ev
      refine ⟨rfl, ?_⟩
      have s4 := (s3.afterX no1 l' sub src).frz px hx' nx no1
      refine p1 (.ref x) _ H' W' ((grow l').told hx px) s4 ?_
      exact .obj upd_same ck (rf.mono (same_upd px) (WSub.refl _))
/-- THE RULE for an __init__ -/
theorem fnG_init {P : Program} {w : World} {K : PySem.W.Frag} {mg : Str → Option Value} {base : Heap} {y qual : Str} {params : Arguments} {t1 t2 : List Stmt} {scope : Scope} {N ps : List Str} {Γ : Tab} {fuel k : Nat} {fd : FuncData} {f : Addr} {md : Md} (F : L2.FunD K y qual params (t1 ++ t2) scope [] [] f fd) (sc : FnScope N ps scope) (hK : K = g.K)
    (hps : ps.length = md.np + 1) (hle : ps.length ≤ N.length) (hns : md.ns = N.length) (hΓ : Γ (.mk md.c) = some (.md md)) (hc : ClsK g md.c md.fns) (hnd : md.fns.Nodup) (hfl : md.fns.length ≤ 1000)
    (hpre : ∀ (cdv : Value) (A : Around) (outer : List Env) (s : Shared) (H : Hp) (E : XK), RoomX k (A.deeper (envOfC qual scope s.heap.objs.size f cdv)) → A.guards = some [] →
      Pres g (fun c d _ H => E c d H) ⟨callD Γ fuel k, fuel⟩ (cxOf (L2.CX P w) P w K mg base N qual scope f cdv A outer s H E) t1 md.pre)
    (hfld : ∀ (cdv : Value) (A : Around) (outer : List Env) (s : Shared) (H : Hp) (E : XK), RoomX k (A.deeper (envOfC qual scope s.heap.objs.size f cdv)) → A.guards = some [] →
      Flds g (fun c d _ H => E c d H) ⟨callD Γ fuel k, fuel⟩ (cxOf (L2.CX P w) P w K mg base N qual scope f cdv A outer s H E) t2 md.fns md.fes) :
    FnG P w K mg base (k + 1) f fd ps (spI g md.c (callD Γ fuel (k + 1) (.mk md.c)) md.np) := by
  refine fnG_of F sc (fun vs H Q E h => h.1.trans hps.symm) fun cdv A outer s H vs Q E room hgu want => ⟨_, pres_ok sc.nd (flds_ok (c := md.c) hK (hfld cdv A outer s H E room hgu) [] hc hnd (by rw [List.length_nil]; omega)) (hpre cdv A outer s H E room hgu), ?_⟩
  obtain ⟨hl, x, dx, us, rfl, hx, Φ, W, ds, S, sub, src, r, px, nx, p⟩ := want
  have hl2 : ds.length = md.np := by rw [← r.length]; exact Nat.succ.inj hl
  rw [callD, hΓ] at p
  have p : RcI g md.c x dx Φ H W Q E (if ds.length = md.np then finM md (preE ⟨callD Γ fuel k, fuel⟩ (evs ⟨callD Γ fuel k, fuel⟩ md.fes) md.pre (iniM md.ns ds) S) else .no) := p
  rw [if_pos hl2] at p
  have nown : ∀ a, ¬ Own (iniM md.ns ds) (start N (V.ref x :: us)) a := fun a ⟨i, xs, e, _⟩ => by
    cases i with
    | zero => cases e
    | succ i => exact ini_fz (show (ini (md.ns - 1) ds)[i]? = some (some (.ow xs)) from e)
  have hl3 : us.length = md.np := Nat.succ.inj hl
  have st : Stt g Φ H W (iniM md.ns ds) S (start N (V.ref x :: us)) := by
    refine ⟨sub, src, ?_, fun i u e => ?_, fun i j xs ys p' e => ?_⟩
    · unfold iniM L2.start
      rw [List.length_cons, ini_len (by omega), List.length_append, List.length_map, List.length_replicate, List.length_cons]
      omega
    · cases i with
      | zero => cases e
      | succ i =>
        obtain ⟨d, e1, rfl⟩ := ini_get (show (ini (md.ns - 1) ds)[i]? = some (some u) from e)
        obtain ⟨v, e2, rv⟩ := r.get e1
        refine ⟨some v, ?_, v, rfl, rv⟩
        unfold L2.start
        have hi := (List.getElem?_eq_some_iff.mp e2).1
        rw [List.getElem?_append_left (by rw [List.length_map, List.length_cons]; omega), List.getElem?_map, List.getElem?_cons_succ, e2]
        rfl
    · cases i with
      | zero => cases e
      | succ i => exact absurd (show (ini (md.ns - 1) ds)[i]? = some (some (.ow xs)) from e) ini_fz
  refine ⟨Φ, W, iniM md.ns ds, S, x, dx, [], ⟨st, rfl, hx, .nil, px, nx, nown x⟩, ?_⟩
  have lx : ∀ {O' : Addr → Prop} {Φ' H' : Hp} {W' : Wd}, LS (fun a => Own (iniM md.ns ds) (start N (V.ref x :: us)) a ∨ a = x) Φ H W (fun a => O' a ∨ a = x) Φ' H' W' → LS (· = x) Φ H W (· = x) Φ' H' W' := fun l =>
    ⟨l.mono, fun a o h nf no => l.keep a o h nf fun z => z.elim (nown a) no, fun a h no => l.frz a h fun z => z.elim (nown a) no, l.wfp, l.wsub, l.live, fun a z => .inl z⟩
  cases er : preE ⟨callD Γ fuel k, fuel⟩ (evs ⟨callD Γ fuel k, fuel⟩ md.fes) md.pre (iniM md.ns ds) S with
  | no => rw [er] at p; exact p
  | rs e ρ' S' =>
    rw [er] at p
    exact fun cc d σ' Φ' H' W' l s q => p cc d Φ' H' W' (lx l) s.sub s.src q
  | ok ds' ρ' S' =>
    rw [er] at p
    intro σ' Φ' H' W' fvs l is'
    have ks := rpf_keys is'.rp
    refine p _ rfl Φ' H' W' fvs (lx l) is'.st.sub is'.st.src is'.at_ is'.rp ⟨hc.1, fun f' hf' => hc.2.1 f' ?_, hc.2.2⟩ is'.ph is'.nf
    rw [ks] at hf'
    obtain ⟨q, hq, rfl⟩ := List.mem_map.mp hf'
    exact (List.of_mem_zip (show q ∈ md.fns.zip ds' from hq)).1
end
end VI
set_option Elab.async false
set_option linter.all false
set_option maxRecDepth 100000
set_option maxHeartbeats 4000000
/-! VIy: calls whose arguments are lent: the names' lists stay with their names, for what comes back holds no list. -/
namespace VI
open PySem PySem.Spec PyProof.Rows L2
section
variable {g : Gl0} {w : Wr} {Φ Φ' : Hp}
/-- all records but those of lists are the same -/
def Less (Φ Φ' : Hp) : Prop := ∀ a o, Φ a = some o → (∀ vs, o ≠ .lst vs) → Φ' a = some o
mutual
theorem Rp.less (e : Less Φ Φ') : ∀ {v : V} {d : D}, Rp g w Φ v d → d.noL = true → Rp g w Φ' v d
  | _, _, .non, _ => .non
  | _, _, .bl b, _ => .bl b
  | _, _, .int i, _ => .int i
  | _, _, .str s, _ => .str s
  | _, _, .tup h r, n => by
    refine .tup ?_ (Rps.less e r (by rw [D.noL] at n; exact n))
    rcases h with ⟨o, f, h⟩ | h
    · refine .inl ⟨o, f, e _ _ h fun vs z => ?_⟩
      obtain ⟨ob, f1, _⟩ := f
      rw [z] at f1
      cases f1
    · exact .inr h
  | _, _, .lst _ _, n => by rw [D.noL] at n; cases n
  | _, _, .scr _, n => by rw [D.noL] at n; cases n
  | _, _, .dic h r, n => .dic (e _ _ h fun _ z => by cases z) (RpK.less e r (by rw [D.noL] at n; exact n))
  | _, _, .obj h c r, n => .obj (e _ _ h fun _ z => by cases z) c (RpF.less e r (by rw [D.noL] at n; exact n))
  | _, _, .src h, _ => .src h
  | _, _, .mem h, _ => .mem h
theorem Rps.less (e : Less Φ Φ') : ∀ {vs : List V} {ds : List D}, Rps g w Φ vs ds → D.noLs ds = true → Rps g w Φ' vs ds
  | _, _, .nil, _ => .nil
  | _, _, .cons h r, n => by
    rw [D.noLs, Bool.and_eq_true] at n
    exact .cons (Rp.less e h n.1) (Rps.less e r n.2)
theorem RpK.less (e : Less Φ Φ') : ∀ {vs : List (Key × V)} {ds : List (Key × D)}, RpK g w Φ vs ds → D.noLk ds = true → RpK g w Φ' vs ds
  | _, _, .nil, _ => .nil
  | _, _, .cons h r, n => by
    rw [D.noLk, Bool.and_eq_true] at n
    exact .cons (Rp.less e h n.1) (RpK.less e r n.2)
theorem RpF.less (e : Less Φ Φ') : ∀ {vs : List (Str × V)} {ds : List (Str × D)}, RpF g w Φ vs ds → D.noLf ds = true → RpF g w Φ' vs ds
  | _, _, .nil, _ => .nil
  | _, _, .cons h r, n => by
    rw [D.noLf, Bool.and_eq_true] at n
    exact .cons (Rp.less e h n.1) (RpF.less e r n.2)
end
end
section
variable {g : Gl0} {Wx : WX} {C : Cal} {X : Cx} {σ : L2.St} {O : Addr → Prop} {Φ H Φ1 H1 : Hp} {W W1 : Wd} {ρ ρ1 : Rho} {S S1 : So} {e : Expr} {m : E}
/-- operands in flight -/
def ROs (g : Gl0) (σ : L2.St) (Φ : Hp) (w : Wr) : List V → List Opd → Prop
  | [], [] => True
  | v :: vs, x :: xs => (match x with | .sl i => σ[i]? = some (some v) | .vl d => Rp g w Φ v d) ∧ ROs g σ Φ w vs xs
  | _, _ => False
def RLO (g : Gl0) (σ : L2.St) : Rl (List Opd) (List V) := fun _ vs xs Φ' _ W' _ => ROs g σ Φ' W'.w vs xs
theorem early_RLO : Early (RLO g σ) := fun _ _ _ _ _ _ _ _ _ q => q
def tAO (g : Gl0) (Wx : WX) (C : Cal) (ms : List E) : TA := tR g Wx (RLO g) (evO C ms)
theorem tAO_nil : PA X [] (tAO g Wx C []) := PA.weak pa_nil fun σ H Q ⟨Φ, W, ρ, S, s, p⟩ => by
  rw [evO] at p
  exact p.okv s trivial
theorem tAO_cons {es : List Expr} {ms : List E} (h : PE X e (tO g Wx C m)) (hs : PA X es (tAO g Wx C ms)) (hst : starEach (e :: es) X.env = (false, eval e X.env) :: starEach es X.env) : PA X (e :: es) (tAO g Wx C (m :: ms)) :=
  PA.weak (pa_cons h hs hst) fun σ H Q ⟨Φ, W, ρ, S, s, p⟩ => by
    rw [evO] at p
    refine ⟨Φ, W, ρ, S, s, ?_⟩
    refine Pst.bindO early_RLO p fun c ρ1 S1 d Φ1 H1 W1 l s1 q p1 => ⟨Φ1, W1, ρ1, S1, s1, ?_⟩
    refine Pst.bind early_RLO p1 fun ds ρ2 S2 vs Φ2 H2 W2 _ l2 s2 q2 p2 => ?_
    refine p2.okv s2 ⟨?_, q2⟩
    cases c with
    | sl i => exact q
    | vl d => exact Rp.mono l2.mono l2.wsub q
/-- Φ with the lists at some places told to all -/
noncomputable def told_ (Φ H : Hp) (O : Addr → Prop) : Hp := fun a => open Classical in if O a then H a else Φ a
theorem told_sub (sub : Same Φ H) : Same (told_ Φ H O) H := fun a o h => by
  unfold told_ at h
  split at h
  · exact h
  · exact sub a o h
theorem told_of (h : ¬ O a) : told_ Φ H O a = Φ a := by unfold told_; rw [if_neg h]
theorem told_is (h : O a) : told_ Φ H O a = H a := by unfold told_; rw [if_pos h]
/-- what a slot's own list is -/
theorem Stt.own (s : Stt g Φ H W ρ S σ) {a : Addr} (h : Own ρ σ a) : ∃ vs, H a = some (.lst vs) ∧ Φ a = none ∧ ¬ W.fp a := by
  obtain ⟨i, xs, e1, e2⟩ := h
  obtain ⟨x, e3, q, vs, e4, e5, _, e6, e7⟩ := s.slot i _ e1
  rw [e2] at e3
  cases e3
  cases e4
  exact ⟨vs, e5, e6, e7⟩
theorem Stt.told_same (s : Stt g Φ H W ρ S σ) : Same Φ (told_ Φ H (Own ρ σ)) := fun a o h => by
  rw [told_of]
  · exact h
  · intro n
    obtain ⟨_, _, z, _⟩ := s.own n
    rw [z] at h
    cases h
theorem Stt.told_src0 (s : Stt g Φ H W ρ S σ) : SrcOk0 W S (told_ Φ H (Own ρ σ)) H := by
  have q := s.src.base
  unfold SrcOk0 at q ⊢
  split <;> simp_all
  rename_i a c s' hr
  obtain ⟨q1, q2, q3, q4⟩ := q
  exact ⟨by rw [told_of fun n => (s.own n).elim fun _ z => z.2.2 (.inl ⟨a, c, hr, .inl rfl⟩)]; exact q3, by rw [told_of fun n => (s.own n).elim fun _ z => z.2.2 (.inl ⟨a, c, hr, .inr rfl⟩)]; exact q4⟩
theorem Stt.told_src (s : Stt g Φ H W ρ S σ) : SrcOk g W S (told_ Φ H (Own ρ σ)) H :=
  ⟨s.told_src0, s.src.len, s.src.nd, fun i a m h1 h2 => by
    obtain ⟨⟨xs, e, r, z⟩, na⟩ := s.src.mem i a m h1 h2
    refine ⟨⟨xs, e, r.mono s.told_same, z⟩, ?_⟩
    rw [told_of fun n => (s.own n).elim fun _ z => z.2.2 (.inr (List.mem_of_getElem? h1))]
    exact na⟩
theorem MemR.less {m : Mem} {xs : List (List Key × Addr × Value)} {Φ' : Hp} (e : Less Φ Φ') (r : MemR g Φ m xs) : MemR g Φ' m xs := Paired.mapP r fun _ _ z => ⟨z.1, by
  rcases z.2.1 with ⟨o, f, h⟩ | h
  · refine .inl ⟨o, f, e _ _ h fun vs z => ?_⟩
    obtain ⟨ob, f1, _⟩ := f
    rw [z] at f1
    cases f1
  · exact .inr h, z.2.2⟩
theorem ROs.rps (s : Stt g Φ H W ρ S σ) : ∀ {vs : List V} {xs : List Opd} {ds : List D}, ROs g σ Φ W.w vs xs → getO ρ xs = some ds → Rps g W.w (told_ Φ H (Own ρ σ)) vs ds
  | [], [], ds, _, e => by cases e; exact .nil
  | v :: vs, x :: xs, ds, q, e => by
    unfold getO at e
    cases e1 : x.get ρ with
    | none => rw [e1] at e; cases e
    | some d =>
      cases e2 : getO ρ xs with
      | none => rw [e1, e2] at e; cases e
      | some ds' =>
        rw [e1, e2] at e
        cases e
        refine .cons ?_ (ROs.rps s q.2 e2)
        cases x with
        | vl d' =>
          cases e1
          exact Rp.mono s.told_same (WSub.refl _) q.1
        | sl i =>
          have e' : slD? ρ i = some d := e1
          unfold slD? at e'
          split at e'
          · rename_i u hu
            cases e'
            obtain ⟨x, e2, ok⟩ := s.slot i u hu
            have e3 : σ[i]? = some (some v) := q.1
            rw [e3] at e2
            cases e2
            cases u with
            | fz d =>
              obtain ⟨v', e4, r⟩ := ok
              cases e4
              exact Rp.mono s.told_same (WSub.refl _) r
            | ow ys =>
              obtain ⟨p, ws, e4, h, r, _⟩ := ok
              cases e4
              refine .lst (vs := ws) ?_ (Rps.mono s.told_same (WSub.refl _) r)
              rw [told_is ⟨i, ys, hu, e3⟩]
              exact h
          · cases e'
theorem D.noL_vl {v : Vl} (h : v.noL = true) : (∃ d, v = .fz d ∧ d.noL = true) ∨ ∃ xs, v = .ow xs ∧ D.noLs xs = true := by
  cases v with
  | fz d => exact .inl ⟨d, rfl, h⟩
  | ow xs => exact .inr ⟨xs, rfl, h⟩
/-- a call to which lists were lent -/
theorem rcp_lent {r : Rc} {Q : VK} (s : Stt g Φ H W ρ S σ) (p : Pst g Wx σ (Own ρ σ) Φ H W (RV g σ) (lent ρ r) Q) : RcP g (told_ Φ H (Own ρ σ)) H W r Q (WE Wx σ) := by
  cases r with
  | rs x S' => exact p.elim
  | no => exact p.elim
  | ok v S' =>
    cases hn : v.noL with
    | false =>
      have e : lent ρ (.ok v S') = .no := if_neg (by rw [hn]; exact Bool.false_ne_true)
      rw [e] at p
      exact p.elim
    | true =>
      have e : lent ρ (.ok v S') = .ok v ρ S' := if_pos hn
      rw [e] at p
      intro b Φ' H' W' l sub src q
      -- what is known at the end: Φ' without the names' own lists
      let Φ2 : Hp := fun a => open Classical in if Own ρ σ a then none else Φ' a
      have p2 : ∀ a, ¬ Own ρ σ a → Φ2 a = Φ' a := fun a n => if_neg n
      have p3 : ∀ a, Own ρ σ a → Φ2 a = none := fun a n => if_pos n
      have less : Less Φ' Φ2 := fun a o h n => by
        rw [p2 a fun z => ?_]
        · exact h
        · obtain ⟨vs, e1, _⟩ := s.own z
          have e2 := l.mono a _ ((told_is z).trans e1)
          rw [h] at e2
          cases e2
          exact n _ rfl
      have mono : Same Φ Φ2 := fun a o h => by
        have z : ¬ Own ρ σ a := fun z => by obtain ⟨_, _, e, _⟩ := s.own z; rw [h] at e; cases e
        rw [p2 a z]
        exact l.mono a o ((told_of z).trans h)
      have sub2 : Same Φ2 H' := fun a o h => by
        by_cases z : Own ρ σ a
        · rw [p3 a z] at h; cases h
        · rw [p2 a z] at h; exact sub a o h
      have no2 : ∀ a, Φ' a = none → Φ2 a = none := fun a h => by
        by_cases z : Own ρ σ a
        · exact p3 a z
        · rw [p2 a z]; exact h
      have kept : ∀ a, Own ρ σ a → H' a = H a := fun a z => by
        obtain ⟨vs, e1, _⟩ := s.own z
        rw [e1]
        exact sub a _ (l.mono a _ ((told_is z).trans e1))
      refine p b Φ2 H' W' ⟨mono, fun a o h nf no => l.keep a o h nf fun z => z, fun a h no => ?_, l.wfp, l.wsub, l.live, fun _ z => .inl z⟩ ⟨sub2, ?_, s.len, fun i u e => ?_, s.apart⟩ ?_
      · rw [p2 a no, l.frz a h fun z => z, told_of no]
      · refine ⟨?_, src.len, src.nd, fun i a m h1 h2 => ?_⟩
        · have q := src.base
          unfold SrcOk0 at q ⊢
          split <;> simp_all
        · obtain ⟨⟨xs, e, r, z⟩, na⟩ := src.mem i a m h1 h2
          exact ⟨⟨xs, e, r.less less, z⟩, no2 a na⟩
      · obtain ⟨x, ex, ok⟩ := s.slot i u e
        refine ⟨x, ex, ?_⟩
        cases u with
        | fz d =>
          obtain ⟨v, rfl, r⟩ := ok
          exact ⟨v, rfl, r.mono mono l.wsub⟩
        | ow xs =>
          obtain ⟨p, vs, rfl, h1, r, h2, h3⟩ := ok
          have hp : H p ≠ none := by rw [h1]; exact fun z => nomatch z
          have ho : Own ρ σ p := ⟨i, xs, e, ex⟩
          exact ⟨p, vs, rfl, (kept p ho).trans h1, r.mono mono l.wsub, p3 p ho, fun z => (l.wfp p z).elim h3 hp⟩
      · rcases D.noL_vl hn with ⟨d, rfl, hd⟩ | ⟨xs, rfl, hd⟩
        · exact Rp.less less q hd
        · obtain ⟨a, vs, e1, e2, e3, e4, e5, e6, e7⟩ := q
          exact ⟨a, vs, e1, e2, Rps.less less e3 hd, no2 a e4, e5, s.nown e7, e7⟩
theorem evO_length : ∀ (ms : List E) {ρ ρ1 : Rho} {S S1 : So} {xs : List Opd}, evO C ms ρ S = .ok xs ρ1 S1 → xs.length = ms.length
  | [], ρ, ρ1, S, S1, xs, h => by rw [evO] at h; cases h; rfl
  | m :: ms, ρ, ρ1, S, S1, xs, h => by
    rw [evO] at h
    cases h1 : opd m ρ S (ev C m ρ S) with
    | no => rw [h1] at h; cases h
    | rs x ρ' S' => rw [h1] at h; cases h
    | ok x ρ' S' =>
      rw [h1] at h
      have h : (evO C ms ρ' S').bind (fun xs ρ S => Rs.ok (x :: xs) ρ S) = .ok xs ρ1 S1 := h
      cases h2 : evO C ms ρ' S' with
      | no => rw [h2] at h; cases h
      | rs x ρ' S' => rw [h2] at h; cases h
      | ok ys ρ2 S2 =>
        rw [h2] at h
        cases h
        exact congrArg Nat.succ (evO_length ms h2)
theorem getO_length : ∀ {xs : List Opd} {ds : List D}, getO ρ xs = some ds → ds.length = xs.length
  | [], ds, h => by cases h; rfl
  | x :: xs, ds, h => by
    unfold getO at h
    cases h1 : x.get ρ with
    | none => rw [h1] at h; cases h
    | some d =>
      cases h2 : getO ρ xs with
      | none => rw [h1, h2] at h; cases h
      | some ds' =>
        rw [h1, h2] at h
        cases h
        exact congrArg Nat.succ (getO_length h2)
theorem tE_bcall {e : Expr} {n np : Nat} {ms : List E} (hE : PE X e (tCallG (spD g (C.call (.f n)) np) (WE Wx) (tAO g Wx C ms))) (hn : ms.length = np) : PE X e (tE g Wx C (.bcall n ms)) := PE.weak hE fun σ H Q ⟨Φ, W, ρ, S, s, p⟩ => by
  rw [ev] at p
  refine ⟨Φ, W, ρ, S, s, Pst.bind early_RV p fun xs ρ1 S1 vs Φ1 H1 W1 eq l s1 r p1 => ?_⟩
  cases hg : getO ρ1 xs with
  | none => rw [hg] at p1; exact p1.elim
  | some ds =>
    rw [hg] at p1
    have r : Rps g W1.w (told_ Φ1 H1 (Own ρ1 σ)) vs ds := ROs.rps s1 r hg
    exact ⟨by rw [r.length, getO_length hg, evO_length _ eq]; exact hn, _, W1, ds, S1, told_sub s1.sub, s1.told_src, r, rcp_lent s1 p1⟩
end
end VI
set_option Elab.async false
set_option linter.all false
set_option maxRecDepth 100000
set_option maxHeartbeats 4000000
/-! VIB: raise and try. -/
namespace VI
open PySem PySem.Spec PyProof.Rows L2
section
variable {g : Gl0} {Wx : WX} {C : Cal} {X : Cx} {σ : L2.St} {O : Addr → Prop} {Φ H Φ1 H1 : Hp} {W W1 : Wd} {ρ ρ1 : Rho} {S S1 : So} {i : Nat}
/-! ### raise -/
theorem tS_rse0 {e : Expr} {c : Nat} {m : E} {pos : Pos} (hc : X.calm = true) (tk : Takes X Wx) (h : PMk X e (fun _ H Q => Q (.ref (g.cls c)) none H)) : PS X (.Raise (some e) none pos) (tS g Wx (ex C (.rse c none m))) :=
  PS.weak (ps_raise hc tk h) fun D σ H ⟨Φ, W, ρ, S, s, p⟩ => by
    rw [ex] at p
    exact p _ none σ Φ H W LS.refl s ⟨rfl, .inl ⟨rfl, rfl⟩⟩
theorem tS_rse1 {e : Expr} {c : Nat} {f : Str} {tp : Bool} {m : E} {pos : Pos} (hK : X.K = g.K) (hc : X.calm = true) (tk : Takes X Wx)
    (h : PMk X e (fun σ H Q => tA g Wx C [m] σ H fun vs H1 => ∃ v, vs = [v] ∧ (tp = true → ∃ a ws, v = .ref a ∧ SqT X.K H1 a ws) ∧ ∀ dx, H1 dx = none → Q (.ref (g.cls c)) (some dx) (L2.upd H1 dx (.xd [(f, v)])))) :
    PS X (.Raise (some e) none pos) (tS g Wx (ex C (.rse c (some (f, tp)) m))) :=
  PS.weak (ps_raise hc tk h) fun D σ H ⟨Φ, W, ρ, S, s, p⟩ => by
    rw [ex] at p
    have e1 : ((ev C m ρ S).st fun v ρ S => if tp && !v.d.isT then Rst.no else .rs ⟨c, [(f, v.d)]⟩ ρ S) = (evs C [m] ρ S).st fun ds ρ S => match ds with
        | [d] => if tp && !d.isT then Rst.no else .rs ⟨c, [(f, d)]⟩ ρ S
        | _ => .no := by
      rw [evs]
      cases ev C m ρ S with
      | ok v ρ S => rw [Rs.bind, evs] <;> rfl
      | rs x ρ S => rfl
      | no => rfl
    rw [e1] at p
    refine ⟨Φ, W, ρ, S, s, PstS.bind p fun ds ρ1 S1 vs Φ1 H1 W1 l s1 r p1 => ?_⟩
    have r : Rps g W1.w Φ1 vs ds := r
    match ds, vs, r with
    | [d], [v], .cons rv .nil =>
      have p1 : PstS g Wx (Own ρ σ) Φ H W (if tp && !d.isT then Rst.no else .rs ⟨c, [(f, d)]⟩ ρ1 S1) D := p1
      cases ht : (tp && !d.isT) with
      | true => rw [ht] at p1; exact p1.elim
      | false =>
        rw [ht] at p1
        refine ⟨v, rfl, fun t => ?_, fun dx hd => ?_⟩
        · rw [t, Bool.true_and, Bool.not_eq_false'] at ht
          cases d with
          | tup xs =>
            cases rv with
            | tup hq _ => exact ⟨_, _, rfl, by rw [hK]; exact same_seqT s1.sub hq.sq⟩
          | _ => cases ht
        · exact p1 _ (some dx) σ Φ1 _ W1 (l.trans (LS.new s1 hd)) (s1.new hd) ⟨rfl, .inr ⟨dx, _, rfl, L2.upd_same, .cons rv .nil⟩⟩
    | [], _, _ => exact p1.elim
    | _ :: _ :: _, _, _ => exact p1.elim
/-! ### try -/
theorem Stt.unset (s : Stt g Φ H W ρ S σ) (x : Option V) : Stt g Φ H W (ρ.set i none) S (σ.set i x) := by
  have back : ∀ (j : Nat) (v : Vl), (ρ.set i none)[j]? = some (some v) → i ≠ j ∧ ρ[j]? = some (some v) := fun j v e => by
    by_cases h : i = j
    · subst h
      by_cases hl : i < ρ.length
      · rw [List.getElem?_set_self hl] at e; cases e
      · rw [List.getElem?_eq_none (by rw [List.length_set]; omega)] at e; cases e
    · rw [List.getElem?_set_ne h] at e
      exact ⟨h, e⟩
  refine ⟨s.sub, s.src, by rw [List.length_set, List.length_set]; exact s.len, fun j v e => ?_, fun j k xs ys p e1 e2 e3 e4 => ?_⟩
  · obtain ⟨h, e⟩ := back j v e
    rw [List.getElem?_set_ne h]
    exact s.slot j v e
  · obtain ⟨h1, e1⟩ := back _ _ e1
    obtain ⟨h2, e2⟩ := back _ _ e2
    rw [List.getElem?_set_ne h1] at e3
    rw [List.getElem?_set_ne h2] at e4
    exact s.apart j k xs ys p e1 e2 e3 e4
theorem own_unset {x : Option V} {p : Addr} (h : Own (ρ.set i none) (σ.set i x) p) : Own ρ σ p := by
  obtain ⟨j, xs, e1, e2⟩ := h
  by_cases hj : i = j
  · subst hj
    by_cases hl : i < ρ.length
    · rw [List.getElem?_set_self hl] at e1; cases e1
    · rw [List.getElem?_eq_none (by rw [List.length_set]; omega)] at e1; cases e1
  · rw [List.getElem?_set_ne hj] at e1 e2
    exact ⟨j, xs, e1, e2⟩
/-- name = name, of a list that is held alone: it changes hands -/
theorem tS_mov {x : Str} {e : Expr} {j : Nat} {pos pos' : Pos} (hN : X.N.Nodup) (hi : X.N[i]? = some x) (hx : Loc X.env.scope x) (h : PE X e (tVar j)) (hs : swapsWith e (some (.Name x pos')) pos.line X.env = pure false) (hf : X.fn x = true ∨ X.env.scope.names.lookup x = some .local) :
    PS X (.Assign [.Name x pos'] e pos) (tS g Wx (ex C (.mov i j))) := PS.weak (ps_set hN hi hx h hs hf) fun D σ H ⟨Φ, W, ρ, S, s, p⟩ => by
  rw [ex] at p
  have p : PstS g Wx (Own ρ σ) Φ H W (match ρ[j]? with
    | some (some (.ow xs)) => Rst.nx ((ρ.set j none).set i (some (.ow xs))) S
    | _ => .no : Rst) D := p
  split at p
  · rename_i xs hj
    obtain ⟨y, e2, a, vs, rfl, h1, r, h3, h4⟩ := s.slot j _ hj
    have e3 : σ.set j (some (.ref a)) = σ := by
      refine List.ext_getElem? fun k => ?_
      by_cases hk : j = k
      · subst hk
        rw [List.getElem?_set_self (List.getElem?_eq_some_iff.mp e2).1, e2]
      · rw [List.getElem?_set_ne hk]
    have s0 : Stt g Φ H W (ρ.set j none) S σ := by
      have := s.unset (i := j) (some (.ref a))
      rwa [e3] at this
    have back : ∀ p, Own (ρ.set j none) σ p → Own ρ σ p := fun p h => own_unset (i := j) (x := some (.ref a)) (by rw [e3]; exact h)
    have no : ¬ Own (ρ.set j none) σ a := fun ⟨k, ys, q1, q2⟩ => by
      by_cases hk : j = k
      · subst hk
        rw [List.getElem?_set_self (List.getElem?_eq_some_iff.mp hj).1] at q1
        cases q1
      · rw [List.getElem?_set_ne hk] at q1
        exact hk (s.apart j k xs ys a hj q1 e2 q2)
    have q : VOk g (fun _ => none) (.ref a) Φ H W (Own (ρ.set j none) σ) (.ow xs) := ⟨a, vs, rfl, h1, r, h3, h4, no, rfl⟩
    refine ⟨.ref a, e2, p _ Φ H W (LS.refl.toO fun z hz => .inl ?_) (s0.set q)⟩
    rcases own_set s0 hz with hz | ⟨ys, _, e4⟩
    · exact back z hz
    · cases e4
      exact ⟨j, xs, hj, e2⟩
  · exact p.elim
/-- ahead of an except suite: a the exception, cls its class, d its dict -/
def tHS (g : Gl0) (cs : List Nat) (nm : Option Nat) (a : Addr) (cls : Value) (d : Option Addr) (h : HS) : TS := fun D σ H =>
  ∃ Φ W ρ S x, Stt g Φ H W ρ S σ ∧ XOk g Φ H W x cls d ∧ x.c ∈ cs ∧ (∀ n, nm = some n → σ[n]? = some (some (.ref a))) ∧ PstS g (fun _ _ _ _ => False) (Own ρ σ) Φ H W (hsR x h ρ S) D
theorem hsR_wx {x : Exc} {h : HS} {D : Ends} {Wy : WX} (p : PstS g Wx O Φ H W (hsR x h ρ S) D) : PstS g Wy O Φ H W (hsR x h ρ S) D := by
  cases h with
  | ret e =>
    have e1 : hsR x (.ret e) ρ S = (match heV x e with
      | some v => Rst.rt v ρ S
      | none => .no) := rfl
    rw [e1] at p ⊢
    cases h2 : heV x e <;> (rw [h2] at p; exact p)
  | retn => exact p
  | asg i e =>
    have e1 : hsR x (.asg i e) ρ S = (match heV x e with
      | some v => Rst.nx (ρ.set i (some v)) S
      | none => .no) := rfl
    rw [e1] at p ⊢
    cases h2 : heV x e <;> (rw [h2] at p; exact p)
/-- the name goes -/
theorem hsR_unb {x : Exc} {h : HS} {D : Ends} (p : PstS g Wx O Φ H W ((hsR x h ρ S).unb (some i)) D) :
    PstS g Wx O Φ H W (hsR x h ρ S) { nx := fun σ' H' => D.nx (σ'.set i none) H', rt := D.rt, bk := fun σ' H' => D.bk (σ'.set i none) H', ct := fun σ' H' => D.ct (σ'.set i none) H' } := by
  cases h with
  | ret e =>
    have e1 : hsR x (.ret e) ρ S = (match heV x e with
      | some v => Rst.rt v ρ S
      | none => .no) := rfl
    rw [e1] at p ⊢
    cases h2 : heV x e <;> (rw [h2] at p; exact p)
  | retn => exact p
  | asg j e =>
    have e1 : hsR x (.asg j e) ρ S = (match heV x e with
      | some v => Rst.nx (ρ.set j (some v)) S
      | none => .no) := rfl
    rw [e1] at p ⊢
    cases h2 : heV x e with
    | none => rw [h2] at p; exact p
    | some v =>
      rw [h2] at p
      exact fun σ' Φ' H' W' l s => p (σ'.set i none) Φ' H' W' (l.toO fun p z => .inl (own_unset z)) (s.unset none)
/-- what the clause takes and lets through -/
structure TakesX (g : Gl0) (cc : Value) (cs ns : List Nat) : Prop where
  yes : ∀ n ∈ cs, PySem.W.exmOne g.K (.ref (g.cls n)) cc = some true
  no : ∀ n ∈ ns, PySem.W.exmOne g.K (.ref (g.cls n)) cc = some false
theorem tS_try0 {x : Str} {cc : Value} {body suite : List Stmt} {b₀ : Stmt} {np pos pos' : Pos} {b : List VI.S} {cs ns : List Nat} {h : HS} (hK : X.K = g.K) (hs : X.stack = X.env :: X.outer) (hf : X.env.frame = some X.env.locals) (hc : Names X x cc) (tk : Takes X Wx) (tx : TakesX g cc cs ns)
    (hb : ∀ (W : WX) (pn : List (Addr × Obj)) (xe : Value → Shared → Prop), Takes (X.tr pn xe) W → PassesOwn (model X.prog X.w) X.A X.env xe → PSs (X.tr pn xe) body (tS g W (exs C b)))
    (hsu : ∀ (a : Addr) (oe : Obj) (cls : Value) (d : Option Addr) (pn : List (Addr × Obj)), Zc cls d oe → (∃ vs, oe.data = .fields vs) → PSs (X.suite a ((a, oe) :: pn)) (b₀ :: suite) (tHS g cs none a cls d h)) :
    PS X (.Try body [.ExceptHandler (some (.Name x np)) none (b₀ :: suite) pos'] [] [] pos) (tS g Wx (ex C (.try_ b cs ns none h))) :=
  PS.weak (ps_try_only hs hf hc tk hb hsu) fun D σ H ⟨Φ, W, ρ, S, s, p⟩ => by
    rw [ex] at p
    refine ⟨Φ, W, ρ, S, s, ?_⟩
    cases e : exs C b ρ S with
    | nx _ _ => rw [e] at p; exact p
    | bk _ _ => rw [e] at p; exact p
    | ct _ _ => rw [e] at p; exact p
    | rt _ _ _ => rw [e] at p; exact p
    | no => rw [e] at p; exact p
    | rs x ρ1 S1 =>
      rw [e] at p
      have p : PstS g Wx (Own ρ σ) Φ H W (if cs.contains x.c && true then (hsR x h ρ1 S1).unb none else if ns.contains x.c then .rs x ρ1 S1 else .no) D := p
      intro c d σ' Φ' H' W' l s' xo
      rw [hK]
      rw [Bool.and_true] at p
      cases h1 : cs.contains x.c with
      | true =>
        rw [h1, if_pos rfl] at p
        have hm : x.c ∈ cs := List.contains_iff_mem.mp h1
        refine ⟨true, by rw [xo.1]; exact tx.yes _ hm, fun _ a ha => ⟨Φ', W', ρ1, S1, x, s', xo, hm, fun n z => (nomatch z), ?_⟩, fun z => (nomatch z)⟩
        have e2 : (hsR x h ρ1 S1).unb none = hsR x h ρ1 S1 := by
          cases hsR x h ρ1 S1 <;> rfl
        rw [e2] at p
        exact (hsR_wx p).shift l
      | false =>
        rw [h1, if_neg Bool.false_ne_true] at p
        cases h2 : ns.contains x.c with
        | true =>
          rw [h2, if_pos rfl] at p
          exact ⟨false, by rw [xo.1]; exact tx.no _ (List.contains_iff_mem.mp h2), fun z => (nomatch z), fun _ => p c d σ' Φ' H' W' l s' xo⟩
        | false =>
          rw [h2, if_neg Bool.false_ne_true] at p
          exact p.elim
theorem tS_try1 {x n : Str} {cc : Value} {body suite : List Stmt} {b₀ : Stmt} {np pos pos' : Pos} {b : List VI.S} {cs ns : List Nat} {h : HS} (hK : X.K = g.K) (hs : X.stack = X.env :: X.outer) (hf : X.env.frame = some X.env.locals) (hN : X.N.Nodup) (hi : X.N[i]? = some n) (hln : X.env.kindOf n = some .local) (hc : Names X x cc) (tk : Takes X Wx) (tx : TakesX g cc cs ns)
    (hb : ∀ (W : WX) (pn : List (Addr × Obj)) (xe : Value → Shared → Prop), Takes (X.tr pn xe) W → PassesOwn (model X.prog X.w) X.A X.env xe → PSs (X.tr pn xe) body (tS g W (exs C b)))
    (hsu : ∀ (a : Addr) (oe : Obj) (cls : Value) (d : Option Addr) (pn : List (Addr × Obj)), Zc cls d oe → (∃ vs, oe.data = .fields vs) → PSs (X.suite a ((a, oe) :: pn)) (b₀ :: suite) (tHS g cs (some i) a cls d h)) :
    PS X (.Try body [.ExceptHandler (some (.Name x np)) (some n) (b₀ :: suite) pos'] [] [] pos) (tS g Wx (ex C (.try_ b cs ns (some i) h))) :=
  PS.weak (ps_try_as hs hf hN hi hln hc tk hb hsu) fun D σ H ⟨Φ, W, ρ, S, s, p⟩ => by
    rw [ex] at p
    refine ⟨Φ, W, ρ, S, s, ?_⟩
    cases e : exs C b ρ S with
    | nx _ _ => rw [e] at p; exact p
    | bk _ _ => rw [e] at p; exact p
    | ct _ _ => rw [e] at p; exact p
    | rt _ _ _ => rw [e] at p; exact p
    | no => rw [e] at p; exact p
    | rs x ρ1 S1 =>
      rw [e] at p
      have p : PstS g Wx (Own ρ σ) Φ H W (if cs.contains x.c && decide (i < ρ1.length) then (hsR x h (ρ1.set i none) S1).unb (some i) else if ns.contains x.c then .rs x ρ1 S1 else .no) D := p
      intro c d σ' Φ' H' W' l s' xo
      rw [hK]
      cases h1 : (cs.contains x.c && decide (i < ρ1.length)) with
      | true =>
        rw [h1, if_pos rfl] at p
        rw [Bool.and_eq_true] at h1
        have hm : x.c ∈ cs := List.contains_iff_mem.mp h1.1
        have hil : i < σ'.length := by
          rw [← s'.len]
          exact of_decide_eq_true h1.2
        refine ⟨true, by rw [xo.1]; exact tx.yes _ hm, fun _ a ha => ⟨Φ', W', ρ1.set i none, S1, x, s'.unset _, xo, hm, fun n z => by cases z; exact List.getElem?_set_self hil, ?_⟩, fun z => (nomatch z)⟩
        exact hsR_wx ((hsR_unb p).shift (l.toO (O2 := Own (ρ1.set i none) (σ'.set i (some (.ref a)))) fun p z => .inl (own_unset z)))
      | false =>
        rw [h1, if_neg Bool.false_ne_true] at p
        cases h2 : ns.contains x.c with
        | true =>
          rw [h2, if_pos rfl] at p
          exact ⟨false, by rw [xo.1]; exact tx.no _ (List.contains_iff_mem.mp h2), fun z => (nomatch z), fun _ => p c d σ' Φ' H' W' l s' xo⟩
        | false =>
          rw [h2, if_neg Bool.false_ne_true] at p
          exact p.elim
end
/-! ### an except suite, from the text -/
def erHA (n : Option Str) (fs : List Str) : Expr → Option HA
  | .Constant c _ _ => (match c with
    | .bool b => some (.bl b)
    | .none => some .non
    | .str s => some (.str s)
    | _ => none)
  | .Attribute (.Name y _) f _ => if n == some y && fs.contains f then some (.fld f) else none
  | _ => none
def erHAs (n : Option Str) (fs : List Str) : List Expr → Option (List HA)
  | [] => some []
  | e :: es => match erHA n fs e, erHAs n fs es with
    | some a, some as => some (a :: as)
    | _, _ => none
def erHE (n : Option Str) (fs : List Str) : Expr → Option HE
  | .List es _ => (erHAs n fs es).map .lst
  | .Tuple es _ _ => (erHAs n fs es).map .tup
  | e => (erHA n fs e).map .one
def erHS (n : Option Str) (fs : List Str) (sto : Str → Option Nat) : List Stmt → Option HS
  | [.Return none _] => some .retn
  | [.Return (some e) _] => (erHE n fs e).map .ret
  | [.Assign [.Name x _] e _] => (match sto x, erHE n fs e with
    | some i, some h => some (.asg i h)
    | _, _ => none)
  | _ => none
section
variable {g : Gl0} {X : Cx} {cs : List Nat} {nm : Option Nat} {n : Option Str} {fs : List Str} {a : Addr} {oe : Obj} {cls : Value} {d : Option Addr} {pn : List (Addr × Obj)}
/-- what stands ahead of an expression of the suite -/
def AtH (g : Gl0) (cs : List Nat) (nm : Option Nat) (a : Addr) (cls : Value) (d : Option Addr) (Φ H : Hp) (W : Wd) (x : Exc) (σ : L2.St) : Prop := XOk g Φ H W x cls d ∧ x.c ∈ cs ∧ ∀ n, nm = some n → σ[n]? = some (some (.ref a))
/-- what is known of the names -/
structure HxOk (g : Gl0) (X : Cx) (cs : List Nat) (nm : Option Nat) (n : Option Str) (fs : List Str) : Prop where
  cl : ∀ c ∈ cs, ∀ f ∈ fs, XfC X.K (g.cls c) ∧ PySem.W.findIn X.K (.ref (g.cls c)) f = some none
  nm : ∀ y, n = some y → ∃ i, nm = some i ∧ X.N[i]? = some y ∧ Vis X.env.scope y ∧ (y == ("__debug__" : Str)) = false ∧ (y == ("__classdict__" : Str)) = false
def tHA (g : Gl0) (cs : List Nat) (nm : Option Nat) (a : Addr) (cls : Value) (d : Option Addr) (h : HA) : TE := fun σ H Q => ∃ Φ W x dd, AtH g cs nm a cls d Φ H W x σ ∧ haD x h = some dd ∧ ∀ v, Rp g W.w Φ v dd → Q v H
theorem pe_false {e : Expr} : PE X e (fun _ _ _ => False) := ⟨fun _ _ _ _ _ _ z => z.elim⟩
theorem pe_ha (k : HxOk g X cs nm n fs) (hz : Zc cls d oe) (hf : ∃ vs, oe.data = .fields vs) {e : Expr} {h : HA} (he : erHA n fs e = some h) : PE (X.suite a ((a, oe) :: pn)) e (tHA g cs nm a cls d h) := by
  unfold erHA at he
  split at he
  · split at he
    · cases he
      exact PE.weak pe_bl fun σ H Q ⟨Φ, W, x, dd, _, e1, q⟩ => by cases e1; exact q _ (.bl _)
    · cases he
      exact PE.weak pe_non fun σ H Q ⟨Φ, W, x, dd, _, e1, q⟩ => by cases e1; exact q _ .non
    · cases he
      exact PE.weak pe_str fun σ H Q ⟨Φ, W, x, dd, _, e1, q⟩ => by cases e1; exact q _ (.str _)
    · cases he
  · rename_i y p f p2
    split at he
    · rename_i hc
      cases he
      rw [Bool.and_eq_true] at hc
      have en : n = some y := eq_of_beq hc.1
      obtain ⟨i, ei, hN, hv, hd1, hd2⟩ := k.nm y en
      have hff : f ∈ fs := List.contains_iff_mem.mp hc.2
      by_cases hcl : ∃ c ∈ cs, cls = .ref (g.cls c)
      · obtain ⟨c, hm, ec⟩ := hcl
        obtain ⟨T, hno⟩ := k.cl c hm f hff
        refine PE.weak (pe_xf T hno hz hf (pe_var (X := X.suite a ((a, oe) :: pn)) hN hv hd1 hd2) (by rfl)) fun σ H Q ⟨Φ, W, x, dd, hx, e1, q⟩ => ?_
        obtain ⟨⟨x1, x2⟩, x3, x4⟩ := hx
        refine ⟨.ref a, x4 i ei, rfl, ec, ?_⟩
        have e1 : x.fs.lookup f = some dd := e1
        rcases x2 with ⟨_, x2⟩ | ⟨a2, fs2, ed, ha, rf⟩
        · rw [x2] at e1; cases e1
        · obtain ⟨v, l, rv⟩ := rpf_get rf e1
          exact ⟨a2, fs2, v, ed, ha, l, q v rv⟩
      · exact PE.weak pe_false fun σ H Q ⟨Φ, W, x, dd, hx, _, _⟩ => hcl ⟨x.c, hx.2.1, hx.1.1⟩
    · cases he
  · cases he
theorem hA_star {e : Expr} {h : HA} (he : erHA n fs e = some h) {es : List Expr} {env : Env} : starEach (e :: es) env = (false, eval e env) :: starEach es env := by
  cases e <;> first | rfl | cases he
theorem pa_ha (k : HxOk g X cs nm n fs) (hz : Zc cls d oe) (hf : ∃ vs, oe.data = .fields vs) : ∀ {es : List Expr} {as : List HA}, erHAs n fs es = some as →
    PA (X.suite a ((a, oe) :: pn)) es (fun σ H Q => ∃ Φ W x ds, AtH g cs nm a cls d Φ H W x σ ∧ haDs x as = some ds ∧ ∀ vs, Rps g W.w Φ vs ds → Q vs H)
  | [], as, he => by
    cases he
    exact PA.weak pa_nil fun σ H Q ⟨Φ, W, x, ds, _, e1, q⟩ => by cases e1; exact q _ .nil
  | e :: es, as, he => by
    unfold erHAs at he
    split at he
    · rename_i h hs e1 e2
      cases he
      refine PA.weak (pa_cons (pe_ha k hz hf e1) (pa_ha k hz hf e2) (hA_star e1)) fun σ H Q ⟨Φ, W, x, ds, hx, e3, q⟩ => ?_
      unfold haDs at e3
      cases e4 : haD x h with
      | none => rw [e4] at e3; cases e3
      | some dd =>
        rw [e4, Option.bind_some] at e3
        cases e5 : haDs x hs with
        | none => rw [e5] at e3; cases e3
        | some ds' =>
          rw [e5] at e3
          cases e3
          exact ⟨Φ, W, x, dd, hx, e4, fun v rv => ⟨Φ, W, x, ds', hx, e5, fun vs rs => q _ (.cons rv rs)⟩⟩
    · cases he
def tHE (g : Gl0) (cs : List Nat) (nm : Option Nat) (a : Addr) (cls : Value) (d : Option Addr) (h : HE) : TE := fun σ H Q => ∃ Φ W ρ S x v, Stt g Φ H W ρ S σ ∧ AtH g cs nm a cls d Φ H W x σ ∧ heV x h = some v ∧
  ∀ b Φ1 H1, LS (Own ρ σ) Φ H W (Own ρ σ) Φ1 H1 W → Stt g Φ1 H1 W ρ S σ → VOk g H b Φ1 H1 W (Own ρ σ) v → Q b H1
theorem haDs_len {x : Exc} : ∀ {as : List HA} {ds : List D}, haDs x as = some ds → ds.length = as.length
  | [], ds, h => by cases h; rfl
  | a :: as, ds, h => by
    unfold haDs at h
    cases e4 : haD x a with
    | none => rw [e4] at h; cases h
    | some dd =>
      rw [e4, Option.bind_some] at h
      cases e5 : haDs x as with
      | none => rw [e5] at h; cases h
      | some ds' =>
        rw [e5] at h
        cases h
        rw [List.length_cons, List.length_cons, haDs_len e5]
theorem pe_he (k : HxOk g X cs nm n fs) (hz : Zc cls d oe) (hf : ∃ vs, oe.data = .fields vs) {e : Expr} {h : HE} (he : erHE n fs e = some h) : PE (X.suite a ((a, oe) :: pn)) e (tHE g cs nm a cls d h) := by
  unfold erHE at he
  split at he
  · rename_i es p
    cases e1 : erHAs n fs es with
    | none => rw [e1] at he; cases he
    | some as =>
      rw [e1] at he
      cases he
      refine PE.weak (pe_lst (pa_ha k hz hf e1)) fun σ H Q ⟨Φ, W, ρ, S, x, v, s, hx, e2, q⟩ => ?_
      have e2 : (if as.length ≤ 100 then (haDs x as).map Vl.ow else none) = some v := e2
      split at e2
      · rename_i hl
        cases e3 : haDs x as with
        | none => rw [e3] at e2; cases e2
        | some ds =>
          rw [e3] at e2
          cases e2
          refine ⟨Φ, W, x, ds, hx, e3, fun vs rs => ⟨?_, fun p hp => ?_⟩⟩
          · rw [rs.length, haDs_len e3, sizeLine_eq]
            omega
          · exact q (.ref p) _ _ (LS.new s hp) (s.new hp) ⟨p, vs, rfl, L2.upd_same, rs, s.phi hp, s.nfp hp, s.nown hp, hp⟩
      · cases e2
  · rename_i es k0 p
    cases e1 : erHAs n fs es with
    | none => rw [e1] at he; cases he
    | some as =>
      rw [e1] at he
      cases he
      refine PE.weak (pe_tupF (pa_ha k hz hf e1)) fun σ H Q ⟨Φ, W, ρ, S, x, v, s, hx, e2, q⟩ => ?_
      have e2 : (if as.length ≤ 100 then (haDs x as).map fun ds => Vl.fz (.tup ds) else none) = some v := e2
      split at e2
      · rename_i hl
        cases e3 : haDs x as with
        | none => rw [e3] at e2; cases e2
        | some ds =>
          rw [e3] at e2
          cases e2
          refine ⟨Φ, W, x, ds, hx, e3, fun vs rs => ⟨?_, fun p o f hp => ?_⟩⟩
          · rw [rs.length, haDs_len e3, sizeLine_eq]
            omega
          · exact q (.ref p) _ _ (LS.newF s hp) (s.newF hp) (.tup (.of f upd_same) (rs.mono (same_upd (s.phi hp)) (WSub.refl _)))
      · cases e2
  · cases e1 : erHA n fs e with
    | none => rw [e1] at he; cases he
    | some h' =>
      rw [e1] at he
      cases he
      refine PE.weak (pe_ha k hz hf e1) fun σ H Q ⟨Φ, W, ρ, S, x, v, s, hx, e2, q⟩ => ?_
      have e2 : (haD x h').map Vl.fz = some v := e2
      cases e3 : haD x h' with
      | none => rw [e3] at e2; cases e2
      | some dd =>
        rw [e3] at e2
        cases e2
        exact ⟨Φ, W, x, dd, hx, e3, fun v rv => q v Φ H LS.refl s rv⟩
theorem hE_swaps {e : Expr} {h : HE} (he : erHE n fs e = some h) {t : Option Expr} {l : Nat} {env : Env} : swapsWith e t l env = pure false := by
  cases e <;> first | rfl | cases he
/-- the suite -/
theorem pss_hs (k : HxOk g X cs nm n fs) (nd : X.N.Nodup) {sto : Str → Option Nat} (hsto : ∀ x i, sto x = some i → X.N[i]? = some x ∧ Loc X.env.scope x ∧ (X.fn x = true ∨ X.env.scope.names.lookup x = some .local)) (hz : Zc cls d oe) (hf : ∃ vs, oe.data = .fields vs) {ss : List Stmt} {h : HS} (he : erHS n fs sto ss = some h) :
    PSs (X.suite a ((a, oe) :: pn)) ss (tHS g cs nm a cls d h) := by
  unfold erHS at he
  split at he
  · cases he
    refine PSs.weak (pss_one ps_retN) fun D σ H ⟨Φ, W, ρ, S, x, s, _, _, _, p⟩ => ?_
    exact p .non Φ H W LS.refl.toZ s.sub s.src .non
  · rename_i e p
    cases e1 : erHE n fs e with
    | none => rw [e1] at he; cases he
    | some h' =>
      rw [e1] at he
      cases he
      refine PSs.weak (pss_one (ps_ret (pe_he k hz hf e1))) fun D σ H ⟨Φ, W, ρ, S, x, s, x1, x2, x3, p⟩ => ?_
      have p : PstS g (fun _ _ _ _ => False) (Own ρ σ) Φ H W (match heV x h' with
        | some v => .rt v ρ S
        | none => .no) D := p
      cases e2 : heV x h' with
      | none => rw [e2] at p; exact p.elim
      | some v =>
        rw [e2] at p
        exact ⟨Φ, W, ρ, S, x, v, s, ⟨x1, x2, x3⟩, e2, fun b Φ1 H1 l s1 q => p b Φ1 H1 W l.toZ s1.sub s1.src (VOk.vr q)⟩
  · rename_i y p e p2
    split at he
    · rename_i i h' e0 e1
      cases he
      obtain ⟨q1, q2, q3⟩ := hsto _ _ e0
      refine PSs.weak (pss_one (ps_set (X := X.suite a ((a, oe) :: pn)) nd q1 q2 (pe_he k hz hf e1) (hE_swaps e1) q3)) fun D σ H ⟨Φ, W, ρ, S, x, s, x1, x2, x3, p⟩ => ?_
      have p : PstS g (fun _ _ _ _ => False) (Own ρ σ) Φ H W (match heV x h' with
        | some v => .nx (ρ.set i (some v)) S
        | none => .no) D := p
      cases e2 : heV x h' with
      | none => rw [e2] at p; exact p.elim
      | some v =>
        rw [e2] at p
        exact ⟨Φ, W, ρ, S, x, v, s, ⟨x1, x2, x3⟩, e2, fun b Φ1 H1 l s1 q => p _ Φ1 H1 W (l.set s1 q) (s1.set q)⟩
    · cases he
  · cases he
end
/-! ### what is known of exceptions -/
abbrev XcE : Type := Str × Nat × Option (Str × Bool)
abbrev XmE : Type := Str × List Nat × List Nat
def supSt (m : Str) (j : Nat) (p0 p1 p2 p3 p4 p5 : Pos) : Stmt := .Expr (.Call (.Attribute (.Call (.Name "super" p0) [] [] p1) "__init__" p2) [.Constant (.str m) j p3] [] p4) p5
/-- a class x of number c: nothing is stored, or the field f -/
structure ExcK (P : Program) (K : PySem.W.Frag) (mg : Str → Option Value) (g : Gl0) (x : Str) (c : Nat) (fld : Option (Str × Bool)) : Prop where
  mg : mg x = some (.ref (g.cls c))
  cl : OexC K (g.cls c)
  ini : ∃ fI fd scope cda cc, PySem.W.findIn K (.ref (g.cls c)) "__init__" = some (some (.ref fI)) ∧ PySem.W.typeIn K (.ref fI) = some (.type "function") ∧ match fld with
    | none => ∃ y m j p0 p1 p2 p3 p4 p5, SupF P K (g.cls c) fI [y] fd [supSt m j p0 p1 p2 p3 p4 p5] scope cda cc ∧ (p2.endLine == p4.line) = true
    | some (f, tp) => ∃ y z m j p0 p1 p2 p3 p4 p5 q0 q1 q2 ve, SupF P K (g.cls c) fI [y, z] fd [supSt m j p0 p1 p2 p3 p4 p5, .Assign [.Attribute (.Name y q0) f q1] ve q2] scope cda cc ∧ (p2.endLine == p4.line) = true ∧
      StoV tp z ve ∧ (tp = true → scope.names.lookup ("tuple" : Str) = some .globalImplicit ∧ PySem.W.nsIn K mainGlobals "tuple" = some none) ∧ (y == ("__debug__" : Str)) = false ∧ (z == ("__debug__" : Str)) = false
  fld : ∀ f tp, fld = some (f, tp) → XfC K (g.cls c) ∧ PySem.W.findIn K (.ref (g.cls c)) f = some none
theorem sto_sw {tp : Bool} {z : Str} {ve : Expr} (h : StoV tp z ve) {t : Option Expr} {l : Nat} {env : Env} : swapsWith ve t l env = pure false := by
  cases tp with
  | false => obtain ⟨q, rfl⟩ := h; rfl
  | true => obtain ⟨q, q', q'', rfl⟩ := h; rfl
section
variable {g : Gl0} {Wx : WX} {C : Cal} {X : Cx} {x : Str} {c : Nat}
theorem exc_raise0 (k : ExcK X.prog X.K X.mg g x c none) (hc : X.calm = true) (tk : Takes X Wx) (hr : X.A.depth + 3 < recursionLimit) (hg : Gl X x) (hdb : (x == ("__debug__" : Str)) = false) {p pos pos2 : Pos} {m : E} :
    PS X (.Raise (some (.Call (.Name x p) [] [] pos)) none pos2) (tS g Wx (ex C (.rse c none m))) := by
  obtain ⟨fI, fd, scope, cda, cc, h1, h2, y, ms, j, p0, p1, p2, p3, p4, p5, F, hl⟩ := k.ini
  exact tS_rse0 hc tk (pmk_sup0 k.cl h1 h2 F hl hr hg k.mg hdb)
theorem exc_raise1 {f : Str} {tp : Bool} (hK : X.K = g.K) (k : ExcK X.prog X.K X.mg g x c (some (f, tp))) (hc : X.calm = true) (tk : Takes X Wx) (hr : X.A.depth + 3 < recursionLimit) (hg : Gl X x) (hdb : (x == ("__debug__" : Str)) = false) {p pos pos2 : Pos} {e : Expr} {m : E} (ha : PA X [e] (tA g Wx C [m]))
    (he : starEach [e] X.env = (false, eval e X.env) :: starEach [] X.env) : PS X (.Raise (some (.Call (.Name x p) [e] [] pos)) none pos2) (tS g Wx (ex C (.rse c (some (f, tp)) m))) := by
  obtain ⟨fI, fd, scope, cda, cc, h1, h2, y, z, ms, j, p0, p1, p2, p3, p4, p5, q0, q1, q2, ve, F, hl, hve, htp, hyd, hzd⟩ := k.ini
  exact tS_rse1 hK hc tk (pmk_sup1 hve k.cl h1 h2 (k.fld f tp rfl).2 htp hyd hzd F hl (fun env => sto_sw hve) hr hg k.mg hdb ha he (by rfl))
end
end VI
set_option Elab.async false
set_option linter.all false
set_option maxRecDepth 100000
set_option maxHeartbeats 4000000
/-! VIH: dicts that change: keys are tuples; dicts with written keys, asked by an int. -/
namespace VI
open PySem PySem.Spec PyProof.Rows L2
structure Ok3 (g : Gl0) (X : Cx) : Prop where
  K : X.K = g.K
  P : X.prog = g.prog
  w : X.w = g.wd
/-! ### what stands for it -/
def KeysT (K : PySem.W.Frag) (H : Hp) (xs : List (List Key × Addr × Value)) : Prop := ∀ x ∈ xs, SqT K H x.2.1 (x.1.map kV)
section
variable {g : Gl0} {X : Cx} {pins : List (Addr × Obj)} {σ : L2.St} {H : Hp} {s : Shared} {a b : Addr} {k : List Key} {xs : List (List Key × Addr × Value)}
theorem key_of1 (I : Inv X pins σ H s) (h : SqT X.K H b (k.map kV)) : (tupleKind (mixKind X.prog X.w)).is s.heap k b := by
  obtain ⟨its, o, n, rv, ho, hc, hd⟩ : ∃ (its : List Value) (o : Obj) (n : Nat), Vals (k.map kV) its ∧ s.heap.get? b = some o ∧ o.cls = .type "tuple" ∧ o.data = .seq its.toArray n := by
    rcases h with q | ⟨o, its, n, e, hc, hd, _, hv⟩
    · obtain ⟨_, its, hv, o, e, hc, n, hd⟩ := (show ObjOk X.prog X.w H s.heap b (.tup (k.map kV)) from q.ok I.hok)
      exact ⟨its, o, n, hv, e, hc, hd⟩
    · exact ⟨its.toList, o, n, hv, I.kIn _ _ e, hc, by simp [hd]⟩
  exact ⟨o, its.toArray, n, ho, hc, hd, by simpa using items_are rv⟩
theorem mem_obj (I : Inv X pins σ H s) (h : H a = some (memO g a xs)) : (a == sysModules) = false ∧ ∃ o es ep, s.heap.get? a = some o ∧ o.ExactDict ∧ o.data = .dict es ep ∧ es.toList = xs.map (entryOfKey (tupleKind (mixKind g.prog g.wd))) ∧ (xs.map (·.1)).Nodup :=
  (show ObjOk X.prog X.w H s.heap a (memO g a xs) from I.hok a _ h).1
theorem mem_dict (h3 : Ok3 g X) (I : Inv X pins σ H s) (h : H a = some (memO g a xs)) (ks : KeysT g.K H xs) : s.heap.DictOfH (tupleKind (mixKind X.prog X.w)) a xs := by
  obtain ⟨_, o, es, ep, h1, h2, h4, h5, h6⟩ := mem_obj I h
  rw [← h3.P, ← h3.w] at h5
  exact ⟨o, es, ep, h1, h2, h4, h5, fun x hx => key_of1 I (by rw [h3.K]; exact ks x hx), h6⟩
theorem memO_ok {P : Program} {w : World} {h : Heap} (z : (a == sysModules) = false) {o : Obj} {es : Array DictEntry} {ep : Nat} (h1 : h.get? a = some o) (h2 : o.ExactDict) (h4 : o.data = .dict es ep) (h5 : es.toList = xs.map (entryOfKey (tupleKind (mixKind g.prog g.wd)))) (h6 : (xs.map (·.1)).Nodup) : ObjOk P w H h a (memO g a xs) :=
  ⟨⟨z, o, es, ep, h1, h2, h4, h5, h6⟩, ⟨o, h1⟩, fun _ _ ⟨z, o, es, ep, q, r⟩ kk => ⟨z, o, es, ep, kk _ q, r⟩⟩
/-! ### the machine -/
def tMGet (g : Gl0) (td ty : TE) : TE := fun σ H Q => td σ H fun x H1 => ty σ H1 fun y H2 => ∃ a b xs k p v, x = .ref a ∧ y = .ref b ∧ H2 a = some (memO g a xs) ∧ KeysT g.K H2 xs ∧ SqT g.K H2 b (k.map kV) ∧ atKey xs k = some p ∧ RelV v p.2 ∧ Q v H2
theorem pe_mget {o i : Expr} {pos : Pos} {td ty : TE} (h3 : Ok3 g X) (hu : X.A.units + 1 < cLine) (ho : PE X o td) (hi : PE X i ty) (hs : NoSl i) : PE X (.Subscript o i pos) (tMGet g td ty) := by
  refine ⟨fun pins s σ H Q I h => ?_⟩
  refine subD_of PySem.F.slot_dict_getitem.lookup hs (thn (ho.run pins s σ H _ I h) fun u s1 ⟨x, H1, I1, rx, q1⟩ => thn (hi.run pins s1 σ H1 _ I1 q1) fun iv s2 ⟨y, H2, I2, ry, a, b, xs, k, p, v, ex, ey, h1, ks, hb, hp, rv, q2⟩ => ?_)
  subst ex ey
  obtain rfl : u = Value.ref a := rx
  obtain rfl : iv = Value.ref b := ry
  have dd := mem_dict h3 I2 h1 ks
  exact ⟨dd.typeIs, wpAny_getItem_heap (tupleKind_room_in1 hu) (key_of1 I2 (by rw [h3.K]; exact hb)) dd hp ⟨v, H2, I2.tok _, rv, q2⟩⟩
def rMin (g : Gl0) (neg : Bool) : R2 := fun x y H Q => ∃ a b xs k, x = .ref b ∧ y = .ref a ∧ H a = some (memO g a xs) ∧ KeysT g.K H xs ∧ SqT g.K H b (k.map kV) ∧ Q (.bl ((atKey xs k).isSome != neg)) H
theorem op_min (h3 : Ok3 g X) (hu : X.A.units + 1 < cLine) : OpR X (compareOp .In) (rMin g false) := by
  intro pins s σ H x y u v Q I rx ry ⟨a, b, xs, k, ex, ey, h1, ks, hb, q⟩
  subst ex ey
  cases rx
  cases ry
  refine wpAny_in_heap (tupleKind_room_in1 hu) (key_of1 I (by rw [h3.K]; exact hb)) (mem_obj I h1).1 (mem_dict h3 I h1 ks) ⟨.bl (atKey xs k).isSome, H, I.tok _, rfl, ?_⟩
  rw [Bool.bne_false] at q
  exact q
theorem op_mnin (h3 : Ok3 g X) (hu : X.A.units + 1 < cLine) : OpR X (compareOp .NotIn) (rMin g true) := by
  intro pins s σ H x y u v Q I rx ry ⟨a, b, xs, k, ex, ey, h1, ks, hb, q⟩
  subst ex ey
  cases rx
  cases ry
  refine wpAny_notIn_heap (tupleKind_room_in1 hu) (key_of1 I (by rw [h3.K]; exact hb)) (mem_obj I h1).1 (mem_dict h3 I h1 ks) ⟨.bl (!(atKey xs k).isSome), H, I.tok _, rfl, ?_⟩
  rw [Bool.bne_true] at q
  exact q
theorem pe_mnew {pos : Pos} : PE X (.Dict [] [] pos) (fun _ H Q => ∀ p, H p = none → Q (.ref p) (upd H p (memO g p []))) := ⟨fun pins s σ H Q I h =>
  wpAny_Dict_empty ⟨.ref s.heap.objs.size, _, I.laid (a := s.heap.objs.size) (o := memO g s.heap.objs.size []) (t' := s.toks) (fun _ _ q => Heap.get?_push_of_some _ q) (Nat.le_refl _)
    (memO_ok (beq_eq_false_iff_ne.mpr (Ne.symm (Nat.ne_of_lt I.big))) (Heap.get?_push_size _ rfl) ⟨rfl, rfl, rfl⟩ rfl rfl List.nodup_nil), rfl, h _ (I.hok.fresh (Nat.le_refl _))⟩⟩
def sMPut (g : Gl0) (td ty tv : TE) : TS := fun D σ H => tv σ H fun v H1 => td σ H1 fun x H2 => ty σ H2 fun y H3 => ∃ a b xs k, x = .ref a ∧ y = .ref b ∧ H3 a = some (memO g a xs) ∧ KeysT g.K H3 xs ∧ SqT g.K H3 b (k.map kV) ∧ xs.length < sizeLine ∧ ∀ r, RelV v r → D.nx σ (upd H3 a (memO g a (storedH xs k b r)))
theorem ps_mput {o i value : Expr} {pos pos' : Pos} {td ty tv : TE} (h3 : Ok3 g X) (hu : X.A.units + 1 < cLine) (ho : PE X o td) (hi : PE X i ty) (hv : PE X value tv) (hs : swapsWith value (some (.Subscript o i pos')) pos.line X.env = pure false) :
    PS X (.Assign [.Subscript o i pos'] value pos) (sMPut g td ty tv) := by
  refine ⟨fun pins s σ H D I h => ?_⟩
  refine wpAny_Assign_Subscript (thn (hv.run pins s σ H _ I h) fun r s1 ⟨v, H1, I1, rv, q1⟩ => thn (ho.run pins s1 σ H1 _ I1 q1) fun u s2 ⟨x, H2, I2, rx, q2⟩ => thn (hi.run pins s2 σ H2 _ I2 q2) fun iv s3 ⟨y, H3, I3, ry, a, b, xs, k, ex, ey, h1, ks, hb, hl, q3⟩ => ?_) hs
  subst ex ey
  obtain rfl : u = Value.ref a := rx
  obtain rfl : iv = Value.ref b := ry
  have z := (mem_obj I3 h1).1
  refine wpAny_setItem_heap (hsz := Nat.le_of_lt hl) (tupleKind_room_in1 hu) (key_of1 I3 (by rw [h3.K]; exact hb)) (mem_dict h3 I3 h1 ks) fun h' dd' hs => ?_
  obtain ⟨q, es, ep, hq, h2, h4, h5, _, h6⟩ := dd'
  rw [h3.P, h3.w] at h5
  exact ⟨σ, _, d_write I3 (by rw [h1]; exact True.intro) hs ⟨q, hq⟩ (memO_ok z hq h2 h4 h5 h6), q3 r rv⟩
theorem cr_mkeys (h3 : Ok3 g X) (hc : X.calm = true) : CallR X (.type "list") (fun vs H Q => ∃ d xs, vs = [V.ref d] ∧ H d = some (memO g d xs) ∧ xs.length ≤ sizeLine ∧ ∀ p, H p = none → Q (.ref p) (upd H p (.lst ((xs.map fun x => x.2.1).map V.ref)))) := by
  intro pins s σ H vs us Q I r h
  obtain ⟨d, ks, rfl, hd, hz, q⟩ := h
  obtain ⟨u, rfl, rx⟩ := r.one
  cases rx
  obtain ⟨hs, o, es, ep, ho, hx, hdt, he, hn⟩ := mem_obj I hd
  have l1 : es.size = ks.length := size_of_entries he
  refine PySem.W.kdl_call (kdl_raw hs hx hdt) (I.ok.hd hc) ho (by omega) fun h' tk acc' c' kp e it => ?_
  have ea : acc'.toList = ks.map fun x => Value.ref x.2.1 := by
    have hl : acc'.toList.length = ks.length := by rw [Array.length_toList, it.1]; exact l1
    apply List.ext_getElem?
    intro j
    rw [List.getElem?_map]
    cases hj : acc'.toList[j]? with
    | none =>
      have h1 := List.getElem?_eq_none_iff.mp hj
      rw [List.getElem?_eq_none (by omega)]
      all_goals rfl
    | some v =>
      obtain ⟨en, hen, hv⟩ := it.2 j v (by rw [← Array.getElem?_toList]; exact hj)
      have qe := entry_at he j
      rw [hen] at qe
      cases hb : ks[j]? with
      | none =>
        rw [hb] at qe
        exact nomatch (show some en = none from qe)
      | some b =>
        rw [hb] at qe
        have e2 : en = entryOfKey (tupleKind (mixKind g.prog g.wd)) b := Option.some.inj qe
        rw [hv, e2]
        all_goals rfl
  have eb : acc'.toList = (ks.map fun x => x.2.1).map Value.ref := by rw [ea, List.map_map]; all_goals rfl
  have rv : Vals ((ks.map fun x => x.2.1).map V.ref) acc'.toList := by rw [eb]; exact vals_refs _
  refine ⟨.ref s.heap.objs.size, _, I.laid (t' := tk) (o := .lst ((ks.map fun x => x.2.1).map V.ref)) kp (Nat.le_refl _) ?_, rfl, q _ (I.hok.fresh (Nat.le_refl _))⟩
  exact ⟨by rw [List.length_map, List.length_map]; exact hz, acc'.toList, c', rv, by rw [Array.toArray_toList]; exact e⟩
end
/-! ### the small language's side -/
section
variable {g : Gl0} {w : Wr} {Φ H : Hp} {m : Mem} {xs : List (List Key × Addr × Value)} {k : List Key}
theorem atKey_cons (q : List Key × Addr × Value) (xs : List (List Key × Addr × Value)) (k : List Key) : atKey (q :: xs) k = if q.1 = k then some q.2 else atKey xs k := by
  unfold atKey
  rw [List.find?_cons]
  by_cases e : q.1 = k
  · rw [if_pos e, decide_eq_true e]; rfl
  · rw [if_neg e, decide_eq_false e]
theorem memG_at (r : MemR g Φ m xs) : (memG m k = none ∧ atKey xs k = none) ∨ ∃ x p, memG m k = some x ∧ atKey xs k = some p ∧ RelV x.v p.2 := by
  unfold MemR at r
  induction r with
  | nil => exact .inl ⟨rfl, rfl⟩
  | @cons p q ps qs h t ih =>
    rw [atKey_cons, memG]
    by_cases e : p.1 = k
    · rw [if_pos e, if_pos (h.1.symm.trans e)]
      exact .inr ⟨_, _, rfl, rfl, h.2.2⟩
    · rw [if_neg e, if_neg (fun z => e (h.1.trans z))]
      exact ih
theorem memG_some (r : MemR g Φ m xs) : (atKey xs k).isSome = (memG m k).isSome := by
  rcases memG_at (k := k) r with ⟨e1, e2⟩ | ⟨x, p, e1, e2, _⟩ <;> rw [e1, e2] <;> rfl
theorem MemR.len (r : MemR g Φ m xs) : xs.length = m.length := (Paired.length r).symm
theorem MemR.repl {b : Addr} {y : Mv} {u : Value} (r : MemR g Φ m xs) (ry : RelV y.v u) : MemR g Φ (memR k y m) (xs.map (putAt k u)) := by
  unfold MemR at r ⊢
  induction r with
  | nil => exact .nil
  | @cons p q ps qs h t ih =>
    rw [List.map_cons, memR]
    refine .cons ?_ ih
    obtain ⟨h1, h2, h4⟩ := h
    unfold putAt
    by_cases e : p.1 = k
    · rw [if_pos e, if_pos (h1.symm.trans e)]; exact ⟨h1, h2, ry⟩
    · rw [if_neg e, if_neg (fun z => e (h1.trans z))]; exact ⟨h1, h2, h4⟩
theorem MemR.put {b : Addr} {y : Mv} {u : Value} (r : MemR g Φ m xs) (hb : TqT g.K Φ b (k.map kV)) (ry : RelV y.v u) : MemR g Φ (memP m k y) (storedH xs k b u) := by
  unfold memP storedH
  rw [memG_some r]
  split
  · exact r.repl (b := b) ry
  · exact Paired.snoc r ⟨rfl, hb, ry⟩
theorem memR_len (k : List Key) (v : Mv) : ∀ m : Mem, (memR k v m).length = m.length
  | [] => rfl
  | q :: r => by rw [memR, List.length_cons, memR_len k v r]; rfl
theorem memP_len (m : Mem) (k : List Key) (v : Mv) : (memP m k v).length ≤ m.length + 1 := by
  unfold memP
  split
  · rw [memR_len]; omega
  · rw [List.length_append]; exact Nat.le_refl _
theorem MemR.keys (sub : Same Φ H) (r : MemR g Φ m xs) : KeysT g.K H xs := by
  intro x hx
  unfold MemR at r
  induction r with
  | nil => cases hx
  | @cons p q ps qs h t ih =>
    rcases List.mem_cons.mp hx with rfl | hx
    · rw [← h.1]; exact (same_tqT sub h.2.1).sq
    · exact ih hx
theorem keysK_rel : ∀ {ds : List D} {vs : List V} {k : List Key}, Rps g w Φ vs ds → keysK? ds = some k → vs = k.map kV
  | [], _, k, .nil, e => by cases e; rfl
  | d :: ds, _, k, .cons h r, e => by
    unfold keysK? at e
    cases e1 : keyK? d with
    | none => rw [e1] at e; cases e
    | some k0 =>
      cases e2 : keysK? ds with
      | none => rw [e1, e2] at e; cases e
      | some k1 =>
        rw [e1, e2] at e
        cases e
        rw [List.map_cons, keysK_rel r e2]
        congr 1
        cases d with
        | int i => cases e1; cases h; rfl
        | str i => cases e1; cases h; rfl
        | _ => cases e1
theorem key_tq {v : V} {d : D} (r : Rp g w Φ v d) (e : keyM? d = some k) : ∃ b, v = .ref b ∧ TqT g.K Φ b (k.map kV) := by
  cases d with
  | tup ds =>
    cases r with
    | tup h r =>
      rw [← keysK_rel r e]
      exact ⟨_, rfl, h⟩
  | _ => cases e
theorem Mv.rp (x : Mv) : Rp g w Φ x.v x.d := by
  cases x
  · exact .int _
  · exact .bl _
theorem mv_rp {v : V} {d : D} {y : Mv} (r : Rp g w Φ v d) (e : mv? d = some y) : v = y.v := by
  cases d with
  | int i => cases e; cases r; rfl
  | bl i => cases e; cases r; rfl
  | _ => cases e
theorem rps_keys : ∀ (k : List Key), Rps g w Φ (k.map kV) (k.map kD)
  | [] => .nil
  | .inl i :: r => .cons (.int i) (rps_keys r)
  | .inr i :: r => .cons (.str i) (rps_keys r)
theorem MemR.refs (r : MemR g Φ m xs) : Rps g w Φ ((xs.map fun x => x.2.1).map V.ref) (memK m) := by
  unfold MemR at r
  induction r with
  | nil => exact .nil
  | @cons p q ps qs h t ih => exact .cons (.tup h.2.1 (rps_keys _)) ih
theorem memI_some {d : D} {S : So} {q : Nat × Mem × Src} (h : memI? d S = some q) : d = .mem q.1 ∧ S = some q.2.2 ∧ q.2.2.mem[q.1]? = some q.2.1 := by
  unfold memI? at h
  split at h
  · rename_i i s
    cases e : s.mem[i]? with
    | none => rw [e] at h; cases h
    | some m => rw [e] at h; cases h; exact ⟨rfl, rfl, e⟩
  · cases h
end
section
variable {g : Gl0} {Wx : WX} {C : Cal} {X : Cx} {σ : L2.St} {O O1 O2 : Addr → Prop} {Φ H Φ1 H1 H0 : Hp} {W W1 : Wd} {ρ ρ1 : Rho} {S S1 : So} {i : Nat} {b : V} {v : Vl}
theorem Stt.memAt {u : V} {d : D} {q : Nat × Mem × Src} (s : Stt g Φ H W ρ S σ) (r : Rp g W.w Φ u d) (h : memI? d S = some q) :
    ∃ a xs, u = .ref a ∧ W.mems[q.1]? = some a ∧ H a = some (memO g a xs) ∧ MemR g Φ q.2.1 xs ∧ q.2.1.length ≤ sizeLine ∧ Φ a = none := by
  obtain ⟨rfl, hS, hm⟩ := memI_some h
  cases r with
  | @mem a i hw =>
    have hw : W.mems[q.1]? = some a := hw
    obtain ⟨⟨xs, e, r, z⟩, n⟩ := s.src.mem q.1 a q.2.1 hw (by rw [hS]; exact hm)
    exact ⟨a, xs, rfl, hw, e, r, z, n⟩
/-- a dict that changes is changed -/
theorem Stt.memPut {q : Nat × Mem × Src} {m' : Mem} {a : Addr} {xs' : List (List Key × Addr × Value)} (s : Stt g Φ H W ρ S σ) (hS : S = some q.2.2) (hm : q.2.2.mem[q.1]? = some q.2.1) (hw : W.mems[q.1]? = some a) (na : Φ a = none) (r : MemR g Φ m' xs') (z : m'.length ≤ sizeLine)
    (hd : ∃ xs, H a = some (memO g a xs)) :
    Stt g Φ (upd H a (memO g a xs')) W ρ (some { q.2.2 with mem := q.2.2.mem.set q.1 m' }) σ ∧ LS (Own ρ σ) Φ H W (Own ρ σ) Φ (upd H a (memO g a xs')) W := by
  refine s.srcUpd (.inr (List.mem_of_getElem? hw)) na ⟨?_, ?_, s.src.nd, fun j c m h1 h2 => ?_⟩
  · have q0 := s.src.base
    obtain ⟨xs, hd⟩ := hd
    rw [hS] at q0
    unfold SrcOk0 at q0 ⊢
    cases hr : W.root with
    | none => rw [hr] at q0; exact q0
    | some p =>
      obtain ⟨a0, c0⟩ := p
      rw [hr] at q0
      obtain ⟨q1, q2, q3, q4⟩ := q0
      refine ⟨?_, ?_, q3, q4⟩
      · rw [upd_ne]
        · exact q1
        · rintro rfl; rw [hd] at q1; cases q1
      · rw [upd_ne]
        · exact q2
        · rintro rfl; rw [hd] at q2; cases q2
  · show W.mems.length = (q.2.2.mem.set q.1 m').length
    rw [List.length_set, s.src.len, hS]
    rfl
  · have h2 : (q.2.2.mem.set q.1 m')[j]? = some m := h2
    by_cases hj : q.1 = j
    · subst hj
      rw [hw] at h1
      cases h1
      rw [List.getElem?_set_self (List.getElem?_eq_some_iff.mp hm).1] at h2
      cases h2
      exact ⟨⟨xs', upd_same, r, z⟩, na⟩
    · rw [List.getElem?_set_ne hj] at h2
      obtain ⟨⟨xs, e, r0⟩, n⟩ := s.src.mem j c m h1 (by rw [hS]; exact h2)
      refine ⟨⟨xs, ?_, r0⟩, n⟩
      rw [upd_ne]
      · exact e
      · rintro rfl
        have := (List.getElem?_inj (List.getElem?_eq_some_iff.mp hw).1 s.src.nd).mp (hw.trans h1.symm)
        exact hj this
theorem tE_din {e o : Expr} {op : CmpOp} {neg : Bool} {ma mo : E} {pos : Pos} (ha : PE X e (tE g Wx C ma)) (ho : PE X o (tE g Wx C mo)) (hop : OpR X (compareOp op) (rMin g neg)) (hb : behindInMarks op o = false) : PE X (.Compare e [op] [o] pos) (tE g Wx C (.din neg ma mo)) :=
  PE.weak (pe_cmpR (pos := pos) hop ha ho hb) fun σ H Q ⟨Φ, W, ρ, S, s, p⟩ => by
    rw [ev] at p
    refine ⟨Φ, W, ρ, S, s, Pst.bindF early_RV p fun v ρ1 S1 y Φ1 H1 W1 l1 s1 r1 p1 => ?_⟩
    refine ⟨Φ1, W1, ρ1, S1, s1, Pst.bindF early_RV p1 fun u ρ2 S2 x Φ2 H2 W2 l2 s2 r2 p2 => ?_⟩
    cases e1 : memI? u.d S2 with
    | none => rw [e1] at p2; exact p2.elim
    | some q =>
      cases e2 : keyM? v.d with
      | none => rw [e1, e2] at p2; exact p2.elim
      | some k =>
        rw [e1, e2] at p2
        obtain ⟨a, xs, rfl, hw, h1, r, z, n⟩ := s2.memAt r2 e1
        obtain ⟨b, rfl, hb⟩ := key_tq (r1.mono l2.mono l2.wsub) e2
        refine ⟨a, b, xs, k, rfl, rfl, h1, r.keys s2.sub, (same_tqT s2.sub hb).sq, ?_⟩
        rw [memG_some r]
        exact Pst.okv (a := vbool ((memG q.2.1 k).isSome != neg)) p2 s2 (.bl _)
theorem tT_din {e o : Expr} {op : CmpOp} {neg : Bool} {ma mo : E} {pos : Pos} (ha : PE X e (tE g Wx C ma)) (ho : PE X o (tE g Wx C mo)) (hop : OpR X (compareOp op) (rMin g neg)) (hb : behindInMarks op o = false) : PT X (.Compare e [op] [o] pos) (tT g Wx C (.din neg ma mo)) :=
  PT.weak (pt_cmpR (pos := pos) hop ha ho hb) fun σ H Q ⟨Φ, W, ρ, S, s, p⟩ => by
    have p : Pst g Wx σ (Own ρ σ) Φ H W RB (tru (ev C (.din neg ma mo) ρ S)) Q := p
    rw [ev] at p
    unfold tru at p
    rw [Rs.bind_assoc] at p
    refine ⟨Φ, W, ρ, S, s, Pst.bindF early_RB p fun v ρ1 S1 y Φ1 H1 W1 l1 s1 r1 p1 => ?_⟩
    rw [Rs.bind_assoc] at p1
    refine ⟨Φ1, W1, ρ1, S1, s1, Pst.bindF early_RB p1 fun u ρ2 S2 x Φ2 H2 W2 l2 s2 r2 p2 => ?_⟩
    cases e1 : memI? u.d S2 with
    | none => rw [e1] at p2; exact p2.elim
    | some q =>
      cases e2 : keyM? v.d with
      | none => rw [e1, e2] at p2; exact p2.elim
      | some k =>
        rw [e1, e2] at p2
        have p2 : Pst g Wx σ (Own ρ2 σ) Φ2 H2 W2 RB (.ok ((memG q.2.1 k).isSome != neg) ρ2 S2) Q := p2
        obtain ⟨a, xs, rfl, hw, h1, r, z, n⟩ := s2.memAt r2 e1
        obtain ⟨b, rfl, hb⟩ := key_tq (r1.mono l2.mono l2.wsub) e2
        refine ⟨a, b, xs, k, rfl, rfl, h1, r.keys s2.sub, (same_tqT s2.sub hb).sq, _, rfl, ?_⟩
        rw [memG_some r]
        exact p2.okv s2 rfl
theorem tE_dget {o i : Expr} {mo ma : E} {pos : Pos} (h3 : Ok3 g X) (hu : X.A.units + 1 < cLine) (ho : PE X o (tE g Wx C mo)) (hi : PE X i (tE g Wx C ma)) (hs : NoSl i) : PE X (.Subscript o i pos) (tE g Wx C (.dget mo ma)) :=
  PE.weak (pe_mget h3 hu ho hi hs) fun σ H Q ⟨Φ, W, ρ, S, s, p⟩ => by
    rw [ev] at p
    refine ⟨Φ, W, ρ, S, s, Pst.bindF early_RV p fun u ρ1 S1 x Φ1 H1 W1 l1 s1 r1 p1 => ?_⟩
    refine ⟨Φ1, W1, ρ1, S1, s1, Pst.bindF early_RV p1 fun v ρ2 S2 y Φ2 H2 W2 l2 s2 r2 p2 => ?_⟩
    cases e1 : memI? u.d S2 with
    | none => rw [e1] at p2; exact p2.elim
    | some q =>
      cases e2 : keyM? v.d with
      | none => rw [e1, e2] at p2; exact p2.elim
      | some k =>
        cases e3 : memG q.2.1 k with
        | none => simp only [e1, e2, lift, Rs.bind, e3] at p2; exact p2.elim
        | some x0 =>
          simp only [e1, e2, lift, Rs.bind, e3] at p2
          obtain ⟨a, xs, rfl, hw, h1, r, z, n⟩ := s2.memAt (r1.mono l2.mono l2.wsub) e1
          obtain ⟨b, rfl, hb⟩ := key_tq r2 e2
          rcases memG_at (k := k) r with ⟨f1, _⟩ | ⟨x1, p, f1, f2, f3⟩
          · rw [e3] at f1; cases f1
          · rw [e3] at f1
            cases f1
            exact ⟨a, b, xs, k, p, x0.v, rfl, rfl, h1, r.keys s2.sub, (same_tqT s2.sub hb).sq, f2, f3, Pst.okv (a := Vl.fz x0.d) p2 s2 x0.rp⟩
theorem tE_dkeys {a : Expr} {ma : E} {p pos : Pos} (h3 : Ok3 g X) (hc : X.calm = true) (hg : Gl X "list") (hm : X.mg "list" = none) (ha : PE X a (tE g Wx C ma)) (hst : starEach [a] X.env = (false, eval a X.env) :: starEach [] X.env) :
    PE X (.Call (.Name "list" p) [a] [] pos) (tE g Wx C (.dkeys ma)) :=
  PE.weak (pe_callTy (cr_mkeys h3 hc) hg hm boot_list (pa_cons ha pa_nil hst) (he := hst)) fun σ H Q ⟨Φ, W, ρ, S, s, p⟩ => by
    rw [ev] at p
    refine ⟨Φ, W, ρ, S, s, Pst.bindF early_RV p fun u ρ1 S1 x Φ1 H1 W1 l1 s1 r1 p1 => ?_⟩
    cases e1 : memI? u.d S1 with
    | none => rw [e1] at p1; exact p1.elim
    | some q =>
      rw [e1] at p1
      obtain ⟨a, xs, rfl, hw, h1, r, z, n⟩ := s1.memAt r1 e1
      exact ⟨a, xs, rfl, h1, by rw [r.len]; exact z, fun l hl => new_ow s1 p1 r.refs hl⟩
theorem newM_some {S : So} {q : Nat × Src} (h : newM S = some q) : ∃ s, S = some s ∧ q = (s.mem.length, { s with mem := s.mem ++ [[]] }) := by
  cases S with
  | none => cases h
  | some s => cases h; exact ⟨s, rfl, rfl⟩
theorem tE_dnew {pos : Pos} : PE X (.Dict [] [] pos) (tE g Wx C .dnew) := PE.weak (pe_mnew (g := g)) fun σ H Q ⟨Φ, W, ρ, S, s, p⟩ a ha => by
  rw [ev] at p
  cases e : newM S with
  | none => rw [e] at p; exact p.elim
  | some q =>
    rw [e] at p
    obtain ⟨s0, rfl, rfl⟩ := newM_some e
    have p : Pst g Wx σ (Own ρ σ) Φ H W (RV g σ) (.ok (.fz (.mem s0.mem.length)) ρ (some { s0 with mem := s0.mem ++ [[]] })) Q := p
    have s1 := s.new (o := memO g a []) ha
    have l1 : LS (Own ρ σ) Φ H W (Own ρ σ) Φ (upd H a (memO g a [])) W := LS.new s ha
    have hlen : W.mems.length = s0.mem.length := s.src.len
    have sub : WSub W.w (Wd.w ⟨W.root, W.mems ++ [a]⟩) := ⟨fun _ h => h, fun j c h => by
      show (W.mems ++ [a])[j]? = some c
      have h : W.mems[j]? = some c := h
      rw [List.getElem?_append_left (List.getElem?_eq_some_iff.mp h).1]
      exact h⟩
    have fp : ∀ {c : Addr}, Wd.fp ⟨W.root, W.mems ++ [a]⟩ c → W.fp c ∨ c = a := fun {c} z => by
      rcases z with z | z
      · exact .inl (.inl z)
      · rcases List.mem_append.mp z with z | z
        · exact .inl (.inr z)
        · exact .inr (List.mem_singleton.mp z)
    have b0 : SrcOk0 ⟨W.root, W.mems ++ [a]⟩ (some { s0 with mem := s0.mem ++ [[]] }) Φ (upd H a (memO g a [])) := by
      have q := s1.src.base
      unfold SrcOk0 at q ⊢
      cases hr : W.root with
      | none => rw [hr] at q; exact q
      | some p => rw [hr] at q; exact q
    refine p (.ref a) Φ _ ⟨W.root, W.mems ++ [a]⟩ ⟨l1.mono, fun c o h nf no => l1.keep c o h nf no, l1.frz, fun c z => (fp z).elim (fun z => .inl z) fun z => .inr (by rw [z]; exact ha), sub, l1.live, l1.own⟩
      ⟨s1.sub, ⟨b0, ?_, ?_, fun j c m h1 h2 => ?_⟩, s1.len, fun j u z => ?_, s1.apart⟩ ?_
    · show (W.mems ++ [a]).length = (s0.mem ++ [[]]).length
      rw [List.length_append, List.length_append, hlen]
      rfl
    · show (W.mems ++ [a]).Nodup
      rw [List.nodup_append]
      refine ⟨s.src.nd, by simp, fun x hx y hy z => ?_⟩
      rw [List.mem_singleton.mp hy] at z
      subst z
      exact s.nfp ha (.inr hx)
    · have h1 : (W.mems ++ [a])[j]? = some c := h1
      have h2 : (s0.mem ++ [[]])[j]? = some m := h2
      by_cases hj : j < W.mems.length
      · rw [List.getElem?_append_left hj] at h1
        rw [List.getElem?_append_left (by rw [← hlen]; exact hj)] at h2
        exact s1.src.mem j c m h1 h2
      · rw [List.getElem?_append_right (by omega)] at h1
        rw [List.getElem?_append_right (by omega)] at h2
        have hj0 : j - W.mems.length = 0 := by
          have := (List.getElem?_eq_some_iff.mp h1).1
          simp at this
          omega
        rw [hj0] at h1
        rw [show j - s0.mem.length = 0 by omega] at h2
        simp at h1 h2
        subst h1 h2
        exact ⟨⟨[], upd_same, .nil, Nat.zero_le _⟩, s.phi ha⟩
    · obtain ⟨x, f, ok⟩ := s1.slot j u z
      refine ⟨x, f, ?_⟩
      cases u with
      | fz d =>
        obtain ⟨v, rfl, r⟩ := ok
        exact ⟨v, rfl, r.mono (Same.refl _) sub⟩
      | ow ys =>
        obtain ⟨c, ws, rfl, z1, z2, z3, z4⟩ := ok
        refine ⟨c, ws, rfl, z1, z2.mono (Same.refl _) sub, z3, fun zf => ?_⟩
        rcases fp zf with zf | rfl
        · exact z4 zf
        · rw [upd_same] at z1; cases z1
    · refine .mem ?_
      show (W.mems ++ [a])[s0.mem.length]? = some a
      rw [← hlen, List.getElem?_append_right (Nat.le_refl _)]
      simp
theorem tS_dput {o i e : Expr} {mo ma m : E} {p2 pos : Pos} (h3 : Ok3 g X) (hu : X.A.units + 1 < cLine) (ho : PE X o (tE g Wx C mo)) (hi : PE X i (tE g Wx C ma)) (he : PE X e (tE g Wx C m)) (hs : swapsWith e (some (.Subscript o i p2)) pos.line X.env = pure false) :
    PS X (.Assign [.Subscript o i p2] e pos) (tS g Wx (ex C (.dput mo ma m))) := PS.weak (ps_mput h3 hu ho hi he hs) fun D σ H ⟨Φ, W, ρ, S, s, p⟩ => by
  rw [ex] at p
  refine ⟨Φ, W, ρ, S, s, PstS.bindF p fun v ρ1 S1 xv Φ1 H1 W1 l1 s1 r1 p1 => ?_⟩
  refine ⟨Φ1, W1, ρ1, S1, s1, PstS.bindF p1 fun u ρ2 S2 xu Φ2 H2 W2 l2 s2 r2 p2 => ?_⟩
  refine ⟨Φ2, W2, ρ2, S2, s2, PstS.bindF p2 fun x ρ3 S3 xx Φ3 H3 W3 l3 s3 r3 p3 => ?_⟩
  cases e1 : memI? u.d S3 with
  | none => rw [e1] at p3; exact p3.elim
  | some q =>
    cases e2 : keyM? x.d with
    | none => rw [e1, e2] at p3; exact p3.elim
    | some k =>
      cases e4 : mv? v.d with
      | none => simp only [e1, e2, lift, Rs.st, e4] at p3; exact p3.elim
      | some y =>
        simp only [e1, e2, lift, Rs.st, e4] at p3
        obtain ⟨a, xs, rfl, hw, h1, r, z, n⟩ := s3.memAt (r2.mono l3.mono l3.wsub) e1
        obtain ⟨b, rfl, hb⟩ := key_tq r3 e2
        have rv := (r1.mono l2.mono l2.wsub).mono l3.mono l3.wsub
        have ev := mv_rp rv e4
        subst ev
        by_cases hl : q.2.1.length < lim
        · rw [if_pos hl] at p3
          obtain ⟨_, hS, hm⟩ := memI_some e1
          refine ⟨a, b, xs, k, rfl, rfl, h1, r.keys s3.sub, (same_tqT s3.sub hb).sq, by rw [r.len, sizeLine_eq]; exact hl, fun u0 ru => ?_⟩
          obtain ⟨s4, l4⟩ := s3.memPut (m' := memP q.2.1 k y) (xs' := storedH xs k b u0) hS hm hw n (r.put hb ru) (by have := memP_len q.2.1 k y; rw [sizeLine_eq]; unfold lim at hl; omega) ⟨xs, h1⟩
          exact p3 σ Φ3 _ W3 l4 s4
        · rw [if_neg hl] at p3; exact p3.elim
/-! ### dicts with written keys -/
theorem kixD_some {x y d : D} (h : kixD x y = some d) : ∃ kvs i, x = .dic kvs ∧ y = .int i ∧ keyG (.inl i) kvs = some d := by
  unfold kixD at h
  split at h
  · exact ⟨_, _, rfl, rfl, h⟩
  · cases h
theorem rp_dic {w : Wr} {x : V} {kvs : List (Key × D)} (h : Rp g w Φ x (.dic kvs)) : ∃ a vs, x = .ref a ∧ Φ a = some (.dK vs) ∧ RpK g w Φ vs kvs := by
  cases h with
  | dic h r => exact ⟨_, _, rfl, h, r⟩
theorem tE_kix {o i : Expr} {mo ma : E} {pos : Pos} (hu : X.A.units + 1 < cLine) (ho : PE X o (tE g Wx C mo)) (hi : PE X i (tE g Wx C ma)) (hs : NoSl i) : PE X (.Subscript o i pos) (tE g Wx C (.kix mo ma)) :=
  PE.weak (pe_dget hu ho hi hs) fun σ H Q ⟨Φ, W, ρ, S, s, p⟩ => by
    rw [ev] at p
    refine ⟨Φ, W, ρ, S, s, Pst.bindF early_RV p fun u ρ1 S1 x Φ1 H1 W1 l1 s1 r1 p1 => ?_⟩
    refine ⟨Φ1, W1, ρ1, S1, s1, Pst.bindF early_RV p1 fun v ρ2 S2 y Φ2 H2 W2 l2 s2 r2 p2 => ?_⟩
    cases e1 : kixD u.d v.d with
    | none => rw [e1] at p2; exact p2.elim
    | some d =>
      rw [e1] at p2
      obtain ⟨kvs, i, f1, f2, f3⟩ := kixD_some e1
      rw [f1] at r1
      rw [f2] at r2
      cases r2
      obtain ⟨a, vs, rfl, h1, rk⟩ := rp_dic (r1.mono l2.mono l2.wsub)
      obtain ⟨z, h2, rz⟩ := rpk_get rk f3
      have g1 := DGet.k (k := .inl i) (s2.sub _ _ h1)
      rw [h2] at g1
      exact ⟨a, z, rfl, g1, Pst.okv (a := Vl.fz d) p2 s2 rz⟩
theorem rpk_none {w : Wr} {k : Key} : ∀ {kvs : List (Key × V)} {ds : List (Key × D)}, RpK g w Φ kvs ds → keyG k ds = none → valV kvs k = none
  | _, _, .nil, _ => rfl
  | _, _, .cons (k := k') (d := d') h r, e => by
    unfold keyG at e
    by_cases hk : k' = k
    · rw [if_pos hk] at e; cases e
    · rw [if_neg hk] at e
      rw [valV_neg hk]
      exact rpk_none r e
theorem tE_kget {o i x : Expr} {mo ma mx : E} {apos cpos : Pos} (hu : X.A.units + 1 < cLine) (ho : PE X o (tE g Wx C mo)) (hi : PE X i (tE g Wx C ma)) (hx : PE X x (tE g Wx C mx)) (m2 : M2 X o "get" apos i x cpos) :
    PE X (.Call (.Attribute o "get" apos) [i, x] [] cpos) (tE g Wx C (.kget mo ma mx)) :=
  PE.weak (pe_dget2 hu ho hi hx m2) fun σ H Q ⟨Φ, W, ρ, S, s, p⟩ => by
    rw [ev] at p
    refine ⟨Φ, W, ρ, S, s, Pst.bindF early_RV p fun u ρ1 S1 x Φ1 H1 W1 l1 s1 r1 p1 => ?_⟩
    cases ed : dicK u.d with
    | false => rw [ed] at p1; exact p1.elim
    | true =>
      rw [ed] at p1
      obtain ⟨kvs, f1⟩ : ∃ kvs, u.d = .dic kvs := by
        cases eu : u.d with
        | dic kvs => exact ⟨kvs, rfl⟩
        | _ => rw [eu] at ed; cases ed
      have p1 : Pst g Wx σ (Own ρ1 σ) Φ1 H1 W1 (RV g σ) ((ev C ma ρ1 S1).bind fun v ρ S => (ev C mx ρ S).bind fun y ρ S => (lift (kgetD u.d v.d y.d) ρ S).bind fun d ρ S => .ok (.fz d) ρ S) Q := p1
      rw [f1] at r1
      obtain ⟨a, vs, rfl, h1, rk⟩ := rp_dic r1
      refine ⟨a, rfl, .inl ⟨vs, .inl (s1.sub _ _ h1)⟩, Φ1, W1, ρ1, S1, s1, Pst.bindF early_RV p1 fun v ρ2 S2 y Φ2 H2 W2 l2 s2 r2 p2 => ?_⟩
      refine ⟨Φ2, W2, ρ2, S2, s2, Pst.bindF early_RV p2 fun z ρ3 S3 yz Φ3 H3 W3 l3 s3 r3 p3 => ?_⟩
      have rk3 := (rk.mono l2.mono l2.wsub).mono l3.mono l3.wsub
      have h3 := s3.sub _ _ (l3.mono _ _ (l2.mono _ _ h1))
      rw [f1] at p3
      cases ev : v.d with
      | int i =>
        rw [ev] at p3 r2
        cases r2
        have p3 : Pst g Wx σ (Own ρ3 σ) Φ3 H3 W3 (RV g σ) (.ok (.fz ((keyG (.inl i) kvs).getD z.d)) ρ3 S3) Q := p3
        refine ⟨valV vs (.inl i), DGet.k (k := .inl i) h3, ?_⟩
        cases ek : keyG (.inl i) kvs with
        | none =>
          rw [ek] at p3
          rw [rpk_none rk3 ek]
          exact Pst.okv (a := Vl.fz z.d) p3 s3 r3
        | some d =>
          rw [ek] at p3
          obtain ⟨y0, h2, ry⟩ := rpk_get rk3 ek
          rw [h2]
          exact Pst.okv (a := Vl.fz d) p3 s3 ry
      | _ => rw [ev] at p3; exact p3.elim
end
end VI
set_option Elab.async false
set_option linter.all false
set_option maxRecDepth 100000
set_option maxHeartbeats 4000000
/-! VIm: from the program's text to the small language: expressions. -/
namespace VI
open PySem PySem.Spec PyProof.Rows L2
/-- what is known of names: N the slots' names, sc the running frame's scope, st the names that may be stored, gl the defs (number, parameters), bt the built-in names; sr: the law's own draws; cl the classes, me their methods' names, fl their fields' names; br the defs to which lists are lent -/
structure Tb where
  N : List Str
  sc : Scope
  st : List Str
  gl : List (Str × Nat × Nat)
  bt : List Str
  sr : Bool
  cl : List (Str × Nat × Nat)
  me : List Str
  fl : List Str
  br : List Str
  xc : List XcE
  xm : List XmE
  kc : List (Str × Int)
  mv : List Nat
  dk : List (Nat × Nat)
/-! ### the turning -/
def kloc : Option NameKind → Bool
  | some .local => true
  | some .cell => true
  | some .free => true
  | _ => false
def ixOf (x : Str) : List Str → Option Nat
  | [] => none
  | y :: r => if y == x then some 0 else (ixOf x r).map (· + 1)
def Tb.var (tb : Tb) (x : Str) : Option Nat := if kloc (tb.sc.names.lookup x) && !(x == ("__debug__" : Str)) && !(x == ("__classdict__" : Str)) then ixOf x tb.N else none
def Tb.glo (tb : Tb) (x : Str) : Bool := match tb.sc.names.lookup x with
  | some .globalImplicit => !(x == ("__debug__" : Str))
  | _ => false
/-- a built-in name -/
def Tb.blt (tb : Tb) (x : Str) : Bool := tb.glo x && tb.bt.contains x
def bopOf : Operator → Option Bop
  | .Add => some .add
  | .Sub => some .sub
  | .Mult => some .mul
  | .Mod => some .mod
  | .FloorDiv => some .fdiv
  | .Pow => some .pow
  | _ => none
def copOf : CmpOp → Cop
  | .Eq => .eq
  | .NotEq => .ne
  | .Lt => .lt
  | .LtE => .le
  | .Gt => .gt
  | .GtE => .ge
  | .Is => .is
  | .IsNot => .isn
  | .In => .inn
  | .NotIn => .nin
def erL (f : Expr → Option E) : List Expr → Option (List E)
  | [] => some []
  | e :: es => match f e, erL f es with
    | some m, some ms => some (m :: ms)
    | _, _ => none
def erBool (f : Expr → Option E) (mk : E → E → E) : List Expr → Option E
  | [] => none
  | [e] => f e
  | e :: es => match f e, erBool f mk es with
    | some m, some ms => some (mk m ms)
    | _, _ => none
/-- the items of a display, which of them are starred -/
def erSt (f : Expr → Option E) : List Expr → Option (List Bool × List E)
  | [] => some ([], [])
  | .Starred e _ :: es => match f e, erSt f es with
    | some m, some ms => some (true :: ms.1, m :: ms.2)
    | _, _ => none
  | e :: es => match f e, erSt f es with
    | some m, some ms => some (false :: ms.1, m :: ms.2)
    | _, _ => none
def hasStar : List Expr → Bool
  | [] => false
  | .Starred _ _ :: _ => true
  | _ :: es => hasStar es
/-- sorted(x, reverse=True) -/
def erRev (tb : Tb) (f : Expr → Option E) (x : Str) (args : List Expr) (kw : Keyword) : Option E := match args, kw with
  | [a], ⟨some kn, .Constant (.bool true) _ _, _⟩ => if tb.blt x && x == ("sorted" : Str) && kn == ("reverse" : Str) then (f a).map (.b1 .sortR) else none
  | _, _ => none
def b1Of2 (x : Str) : Option B1 :=
  if x == ("sorted" : Str) then some .sorted
  else if x == ("str" : Str) then some .str
  else if x == ("max" : Str) then some .max
  else if x == ("min" : Str) then some .min
  else none
def b1Of (tb : Tb) (x : Str) : Option B1 :=
  if !tb.blt x then none
  else if x == ("len" : Str) then some .len
  else if x == ("tuple" : Str) then some .tuple
  else if x == ("list" : Str) then some .list
  else if x == ("int" : Str) then some .int
  else if x == ("abs" : Str) then some .abs
  else if x == ("sum" : Str) then some .sum
  else if x == ("any" : Str) then some .any
  else if x == ("all" : Str) then some .all
  else if x == ("repr" : Str) then some .repr
  else b1Of2 x
def b2Of (tb : Tb) (x : Str) : Option B2 :=
  if !tb.blt x then none
  else if x == ("max" : Str) then some .max
  else if x == ("min" : Str) then some .min
  else none
def tyOf (tb : Tb) : Expr → Option Ty
  | .Name x _ => if !tb.blt x then none
    else if x == ("int" : Str) then some .int
    else if x == ("bool" : Str) then some .bool
    else if x == ("str" : Str) then some .str
    else if x == ("list" : Str) then some .list
    else if x == ("tuple" : Str) then some .tuple
    else if x == ("dict" : Str) then some .dict
    else none
  | _ => none
def tysOf (tb : Tb) : List Expr → Option (List Ty)
  | [] => some []
  | e :: es => match tyOf tb e, tysOf tb es with
    | some t, some ts => some (t :: ts)
    | _, _ => none
/-- names that are stored -/
def ownIx (N : List Str) : List Str → List (Str × Nat)
  | [] => []
  | x :: r => match ixOf x N with
    | some i => (x, i) :: ownIx N r
    | none => ownIx N r
def ownOf (scope : Scope) : List Str := (scope.names.filter fun y => match y.2 with
  | .local => true
  | .cell => true
  | _ => false).map (·.1)
def Tb.blk (tb : Tb) (scope : Scope) : Tb := { tb with sc := relS scope tb.sc, st := ownOf scope }
def Tb.sto (tb : Tb) (x : Str) : Option Nat := if tb.st.contains x then ixOf x tb.N else none
def erNms (tb : Tb) : List Expr → Option (List Nat)
  | [] => some []
  | .Name x _ :: es => match tb.sto x, erNms tb es with
    | some i, some is => some (i :: is)
    | _, _ => none
  | _ => none
def erTg (tb : Tb) : Expr → Option Tg
  | .Name x _ => (tb.sto x).map .nm
  | .Tuple es _ _ => (erNms tb es).map .tp
  | _ => none
def isTp : Tg → Bool
  | .tp _ => true
  | .nm _ => false
/-- what is walked -/
def erIt (tb : Tb) (f : Expr → Option E) (e : Expr) : Option (ItK × List E) :=
  match e with
  | .Call (.Name x _) args [] _ =>
    if tb.blt x && x == ("range" : Str) then (match args with
      | [a] => (f a).map fun m => (.rng, [m])
      | [a, b] => (match f a, f b with
        | some m, some m2 => some (.rng, [m, m2])
        | _, _ => none)
      | _ => none)
    else if tb.blt x && x == ("enumerate" : Str) then (match args with
      | [a] => (f a).map fun m => (.enum, [m])
      | _ => none)
    else if tb.blt x && x == ("reversed" : Str) then (match args with
      | [a] => (f a).map fun m => (.rev, [m])
      | _ => none)
    else if tb.blt x && x == ("zip" : Str) then (match args with
      | [a, b] => (match f a, f b with
        | some m, some m2 => some (.zip, [m, m2])
        | _, _ => none)
      | _ => none)
    else (f e).map fun m => (.val, [m])
  | _ => (f e).map fun m => (.val, [m])
def erIfs (f : Expr → Option E) : List Expr → Option E
  | [] => some (.bl true)
  | [e] => f e
  | _ => none
def erRange (tb : Tb) (f : Expr → Option E) : Expr → Option (List E)
  | .Call (.Name x _) args [] _ => if tb.blt x && x == ("range" : Str) then (match args with
      | [a] => (f a).map fun m => [m]
      | [a, b] => (match f a, f b with
        | some m, some m2 => some [m, m2]
        | _, _ => none)
      | _ => none) else none
  | _ => none
def fnOf? (x : Str) : List (Str × Nat × Nat) → Option (Nat × Nat)
  | [] => none
  | (y, n) :: r => if y == x then some n else fnOf? x r
/-- the law's source: its numbers, its cells -/
def skOf (k : Str) : Option SK := if k == ("left" : Str) then some .left else if k == ("mixed" : Str) then some .mixed else if k == ("turn" : Str) then some .turn else none
def cellsOf (tb : Tb) : Expr → Option Nat
  | .Subscript (.Name x _) (.Constant (.str k) _ _) _ => if tb.sr && k == ("cells" : Str) then tb.var x else none
  | _ => none
/-- a written key -/
def keyOf : Option Expr → Option Key
  | some (.Constant (.str k) _ _) => some (.inr k)
  | some (.Constant (.int i) _ _) => some (.inl i)
  | _ => none
def keysOf : List (Option Expr) → Option (List Key)
  | [] => some []
  | k :: ks => match keyOf k, keysOf ks with
    | some a, some r => some (a :: r)
    | _, _ => none
def erDict (tb : Tb) (f : Expr → Option E) (ks : List (Option Expr)) (vs : List Expr) : Option E :=
  if !tb.sr then (match keysOf ks, erL f vs with
    | some a, some ms => if a.length == ms.length && decide (a.length ≤ 15) then some (.dic a ms) else none
    | _, _ => none)
  else match ks, vs with
  | [some (.Constant (.str k1) _ _), some (.Constant (.str k2) _ _), some (.Constant (.str k3) _ _), some (.Constant (.str k4) _ _)], [c, l, m, t] =>
    if tb.sr && k1 == ("cells" : Str) && k2 == ("left" : Str) && k3 == ("mixed" : Str) && k4 == ("turn" : Str) then (match f c, f l, f m, f t with
      | some c, some l, some m, some t => some (.mks c l m t)
      | _, _, _, _ => none)
    else none
  | _, _ => none
def isV : E → Bool
  | .var _ => true
  | _ => false
/-- a name's list is lent: a name behind the first argument, or the only one -/
def lendOk : List E → Bool
  | [m] => isV m
  | _ :: r => r.any isV
  | [] => false
/-- a call by a name -/
def erCall (tb : Tb) (f : Expr → Option E) (x : Str) (args : List Expr) : Option E :=
  match fnOf? x tb.gl with
  | some (n, np) => if tb.glo x then (match erL f args with
      | some ms => if ms.length == np then some (if tb.br.contains x && lendOk ms then .bcall n ms else .call n ms) else none
      | none => none) else none
  | none => match fnOf? x tb.cl with
  | some (c, np) => if tb.glo x then (match args, erL f args with
      | _ :: _, some ms => if ms.length == np then some (.make c ms) else none
      | _, _ => none) else none
  | none => match args with
    | [a] => (match erRange tb f a with
      | some ms => if tb.blt x && x == ("tuple" : Str) then some (.trng ms) else if tb.blt x && x == ("list" : Str) then some (.lrng ms) else none
      | none => match cellsOf tb a with
        | some i => if tb.blt x && x == ("len" : Str) then some (.slen i) else none
        | none => match b1Of tb x, f a with
          | some b, some m => some (.b1 b m)
          | _, _ => none)
    | [a, b] => (match b2Of tb x with
      | some o => (match f a, f b with
        | some m, some m2 => some (.b2 o m m2)
        | _, _ => none)
      | none => if tb.blt x && x == ("isinstance" : Str) then (match f a with
          | some m => (match b with
            | .Tuple ts _ _ => (match tysOf tb ts with
              | some tys => if tys.length ≤ 1000 then some (.isi tys m) else none
              | none => none)
            | _ => (tyOf tb b).map fun t => .isi [t] m)
          | none => none) else none)
    | _ => none
/-- no call without arguments (it might be super()) -/
def noSup : Expr → Bool
  | .Call (.Attribute ..) [] _ _ => true
  | .Call _ [] _ _ => false
  | _ => true
def erMeth (tb : Tb) (f : Expr → Option E) (o : Expr) (m : Str) (args : List Expr) : Option E :=
  if m == ("pop" : Str) then (match o, args with
    | .Name x _, [] => (tb.var x).map .pop0
    | .Subscript .., [] => (cellsOf tb o).map .spop
    | .Name x _, [a] => (match tb.var x, f a with
      | some i, some ma => some (.pop i ma)
      | _, _ => none)
    | .IfExp c (.Name x _) (.Name y _) _, [a] => (match f c, tb.var x, tb.var y, f a with
      | some mc, some i, some j, some ma => some (.ife mc (.pop i ma) (.pop j ma))
      | _, _, _, _ => none)
    | _, _ => none)
  else if m == ("index" : Str) then (match args with
    | [a] => if noSup o then (match f o, f a with
      | some mo, some ma => some (.index mo ma)
      | _, _ => none) else none
    | _ => none)
  else if tb.me.contains m && noSup o && decide (args.length < 30) then (match f o, erL f args with
    | some mo, some ms => some (.meth m mo ms)
    | _, _ => none)
  else none
/-- a part of a slice -/
def erPart (f : Expr → Option E) : Option Expr → Option E
  | none => some .non
  | some e => match f e with
    | some .non => none
    | some m => some m
    | none => none
def isRev : Option Expr → Option Expr → Option Expr → Bool
  | none, none, some (.UnaryOp .USub (.Constant (.int 1) _ _) _) => true
  | _, _, _ => false
def erSub (tb : Tb) (f : Expr → Option E) (a i : Expr) : Option E :=
  match i with
  | .Slice lo hi st _ => if isRev lo hi st then (f a).map .rev else (match st with
    | none => (match f a, erPart f lo, erPart f hi with
      | some ma, some ml, some mh => some (.sl ma ml mh)
      | _, _, _ => none)
    | some _ => none)
  | .Constant (.str k) _ _ => if tb.sr then (match a with
    | .Name x _ => (match tb.var x, skOf k with
      | some j, some q => some (.sget j q)
      | _, _ => none)
    | _ => none) else (f a).map fun m => .key m k
  | _ => match f a, f i with
    | some ma, some mi => some (.ix ma mi)
    | _, _ => none
def erComp (tb : Tb) (f fb : Expr → Option E) (elt : Expr) (gs : List Comprehension) (scope : Scope) : Option E :=
  match gs with
  | [⟨tg, iter, ifs, 0⟩] => (match erIt tb f iter, erTg (tb.blk scope) tg, erIfs fb ifs, fb elt with
    | some (k, args), some t, some mc, some me =>
      if blkC tb.N tb.sc scope (ownIx tb.N (ownOf scope)) && (t.ixs.all fun i => ((ownIx tb.N (ownOf scope)).map (·.2)).contains i) && (!k.u || isTp t) then some (.comp me t k args mc ((ownIx tb.N (ownOf scope)).map (·.2))) else none
    | _, _, _, _ => none)
  | _ => none
def erCmp (f : Expr → Option E) (a : Expr) (ops : List CmpOp) (bs : List Expr) : Option E :=
  match ops, bs with
  | [op], [b] => if behindInMarks op b then none else (match f a, f b with
    | some ma, some mb => some (.cmp (copOf op) ma mb)
    | _, _ => none)
  | [op, op2], [b, c] => if lastMarks [op, op2] [b, c] then none else (match f a, f b, f c with
    | some ma, some mb, some mc => some (.chn (copOf op) (copOf op2) ma mb mc)
    | _, _, _ => none)
  | _, _ => none
/-- x in range(e) -/
def erIrg (tb : Tb) (f : Expr → Option E) (a : Expr) (ops : List CmpOp) (bs : List Expr) : Option E := match ops, bs with
  | [op], [b] => (match b with
    | .Call (.Name x _) [e] [] _ => if tb.blt x && x == ("range" : Str) && !behindInMarks op b then (match op, f a, f e with
      | .In, some ma, some me => some (.irg false ma me)
      | .NotIn, some ma, some me => some (.irg true ma me)
      | _, _, _ => none) else none
    | _ => none)
  | _, _ => none
/-- a name that stands for a dict that changes; {} -/
def isDk (tb : Tb) : Expr → Bool
  | .Name _ p => tb.dk.contains (p.line, p.col)
  | .Dict [] [] p => tb.dk.contains (p.line, p.col)
  | _ => false
def erDin (tb : Tb) (f : Expr → Option E) (a : Expr) (ops : List CmpOp) (bs : List Expr) : Option E := match ops, bs with
  | [op], [b] => if isDk tb b && !behindInMarks op b then (match op, f a, f b with
      | .In, some ma, some mb => some (.din false ma mb)
      | .NotIn, some ma, some mb => some (.din true ma mb)
      | _, _, _ => none) else none
  | _, _ => none
def isDict : Expr → Bool
  | .Dict .. => true
  | _ => false
def isStrC : Expr → Bool
  | .Constant (.str _) _ _ => true
  | _ => false
def erDsub (tb : Tb) (f : Expr → Option E) (a i : Expr) : Option E := if isDk tb a then (match f a, f i with
    | some ma, some mi => some (.dget ma mi)
    | _, _ => none)
  else if isDict a && !isStrC i then (match f a, f i with
    | some ma, some mi => some (.kix ma mi)
    | _, _ => none)
  else none
def erDls (tb : Tb) (f : Expr → Option E) (x : Str) (args : List Expr) : Option E := match args with
  | [a] => if isDk tb a && tb.blt x && x == ("list" : Str) then (f a).map .dkeys else none
  | _ => none
def erGet (f : Expr → Option E) (o : Expr) (m : Str) (args : List Expr) : Option E := match args with
  | [i, x] => if isDict o && m == ("get" : Str) then (match f o, f i, f x with
      | some mo, some mi, some mx => some (.kget mo mi mx)
      | _, _, _ => none) else none
  | _ => none
def er : Nat → Tb → Expr → Option E
  | 0, _, _ => none
  | n + 1, tb, e => match e with
    | .Name x _ => (match tb.var x with
      | some i => some (.var i)
      | none => if tb.glo x then (tb.kc.lookup x).map .int else none)
    | .Constant c _ _ => (match c with
      | .int i => some (.int i)
      | .bool b => some (.bl b)
      | .none => some .non
      | .str s => some (.str s)
      | _ => none)
    | .Tuple es _ _ => if hasStar es then (erSt (er n tb) es).map fun ms => .std true ms.1 ms.2 else (erL (er n tb) es).map .tup
    | .List es _ => if hasStar es then (erSt (er n tb) es).map fun ms => .std false ms.1 ms.2 else (erL (er n tb) es).map .lst
    | .BinOp a op b _ => (match bopOf op, er n tb a, er n tb b with
      | some o, some ma, some mb => some (.bin o ma mb)
      | _, _, _ => none)
    | .UnaryOp op a _ => (match op, er n tb a with
      | .USub, some m => some (.neg m)
      | .Not, some m => some (.not m)
      | _, _ => none)
    | .BoolOp op es _ => (match op with
      | .And => erBool (er n tb) .and es
      | .Or => erBool (er n tb) .or es)
    | .Compare a ops bs _ => (match erDin tb (er n tb) a ops bs with
      | some m => some m
      | none => match erIrg tb (er n tb) a ops bs with
        | some m => some m
        | none => erCmp (er n tb) a ops bs)
    | .IfExp c a b _ => (match er n tb c, er n tb a, er n tb b with
      | some mc, some ma, some mb => some (.ife mc ma mb)
      | _, _, _ => none)
    | .Subscript a i _ => (match erDsub tb (er n tb) a i with
      | some m => some m
      | none => erSub tb (er n tb) a i)
    | .Attribute o f _ => if tb.fl.contains f && noSup o then (er n tb o).map fun m => .fld m f else none
    | .Dict ks vs p => if isDk tb (.Dict ks vs p) then some .dnew else erDict tb (er n tb) ks vs
    | .ListComp elt gs scope _ => erComp tb (er n tb) (er n (tb.blk scope)) elt gs scope
    | .Call fn args kws pos => (match fn, kws with
      | .Name x _, [] => (match erDls tb (er n tb) x args with
        | some m => some m
        | none => erCall tb (er n tb) x args)
      | .Name x _, [kw] => erRev tb (er n tb) x args kw
      | .Attribute o m apos, [] => if apos.endLine == pos.line then (match erGet (er n tb) o m args with
        | some m => some m
        | none => erMeth tb (er n tb) o m args) else none
      | _, _ => none)
    | _ => none
/-! ### the context -/
structure Ctx (g : Gl0) (Wx : WX) (C : Cal) (k : Nat) (tb : Tb) (X : Cx) : Prop where
  K : X.K = g.K
  P : X.prog = g.prog
  w : X.w = g.wd
  sc : X.env.scope = tb.sc
  N : X.N = tb.N
  nd : tb.N.Nodup
  calm : X.calm = true
  room : RoomX k X.A
  gu : X.A.guards = some []
  takes : Takes X Wx
  st : ∀ x ∈ tb.st, Loc X.env.scope x ∧ (X.fn x = true ∨ X.env.scope.names.lookup x = some .local)
  bt : ∀ x ∈ tb.bt, X.mg x = none
  gl : ∀ x n np, fnOf? x tb.gl = some (n, np) → ∃ f fd ps, X.mg x = some (.ref f) ∧ PySem.W.keepIn X.K (.ref f) = true ∧ Binds X.K fd ps [] ∧ ps.length = np ∧ FnG X.prog X.w X.K X.mg X.base k f fd ps (spD g (C.call (.f n)) np)
  me : MethK g X C k
  cl : ∀ x c np, fnOf? x tb.cl = some (c, np) → ∃ f fd ps, X.mg x = some (.ref (g.cls c)) ∧ Mk X.K (g.cls c) f ∧ Binds X.K fd ps [] ∧ FnG X.prog X.w X.K X.mg X.base k f fd ps (spI g c (C.call (.mk c)) np)
  xc : ∀ q ∈ tb.xc, ExcK X.prog X.K X.mg g q.1 q.2.1 q.2.2
  xm : ∀ q ∈ tb.xm, ∃ cc, X.mg q.1 = some cc ∧ TakesX g cc q.2.1 q.2.2
  kc : ∀ q ∈ tb.kc, ∃ t, X.mg q.1 = some (.int q.2 t)
section
variable {g : Gl0} {Wx : WX} {C : Cal} {X : Cx} {k : Nat} {tb : Tb}
theorem Ctx.ok3 (c : Ctx g Wx C k tb X) : Ok3 g X := ⟨c.K, c.P, c.w⟩
theorem ixOf_get {x : Str} : ∀ {N : List Str} {i : Nat}, ixOf x N = some i → N[i]? = some x
  | [], _, h => by cases h
  | y :: r, i, h => by
    unfold ixOf at h
    split at h
    · rename_i e
      cases h
      exact congrArg some (eq_of_beq e)
    · cases q : ixOf x r with
      | none => rw [q] at h; cases h
      | some j =>
        rw [q] at h
        cases h
        exact (ixOf_get q : r[j]? = some x)
theorem kloc_vis {sc : Scope} {x : Str} (h : kloc (sc.names.lookup x) = true) : Vis sc x := by
  unfold kloc at h
  split at h
  · exact .inl (by assumption)
  · exact .inr (.inl (by assumption))
  · exact .inr (.inr (by assumption))
  · cases h
theorem Ctx.var (c : Ctx g Wx C k tb X) {x : Str} {i : Nat} {pos : Pos} (h : tb.var x = some i) : PE X (.Name x pos) (tVar i) := by
  unfold Tb.var at h
  split at h
  · rename_i hc
    simp only [Bool.and_eq_true, Bool.not_eq_true'] at hc
    exact pe_var (by rw [c.N]; exact ixOf_get h) (by rw [c.sc]; exact kloc_vis hc.1.1) hc.1.2 hc.2
  · cases h
theorem kc_mem {x : Str} {v : Int} : ∀ {l : List (Str × Int)}, l.lookup x = some v → (x, v) ∈ l
  | [], h => by cases h
  | (y, u) :: l, h => by
    rw [List.lookup_cons] at h
    split at h
    · rename_i e
      cases h
      rw [eq_of_beq e]
      exact List.mem_cons_self
    · exact List.mem_cons_of_mem _ (kc_mem h)
theorem Ctx.glo (c : Ctx g Wx C k tb X) {x : Str} (h : tb.glo x = true) : Gl X x ∧ (x == ("__debug__" : Str)) = false := by
  unfold Tb.glo at h
  split at h
  · rename_i e
    refine ⟨?_, by simpa using h⟩
    show X.env.scope.names.lookup x = some .globalImplicit
    rw [c.sc]
    exact e
  · cases h
theorem Ctx.blt (c : Ctx g Wx C k tb X) {x : Str} (h : tb.blt x = true) : Gl X x ∧ X.mg x = none := by
  unfold Tb.blt at h
  rw [Bool.and_eq_true] at h
  exact ⟨(c.glo h.1).1, c.bt x (by simpa using h.2)⟩
theorem Ctx.units (c : Ctx g Wx C k tb X) : X.A.units + 65 < cLine := by have := c.room.un; omega
theorem star_ok {e : Expr} {es : List Expr} {env : Env} (h : ∀ v p, e ≠ .Starred v p) : starEach (e :: es) env = (false, eval e env) :: starEach es env := by
  cases e <;> first | rfl | exact absurd rfl (h _ _)
theorem er_star {n : Nat} {e : Expr} {m : E} (h : er n tb e = some m) : ∀ v p, e ≠ .Starred v p := by
  rintro v p rfl
  cases n <;> cases h
theorem plain_ok {n : Nat} {env : Env} {pos : Pos} : ∀ {es : List Expr} {ms : List E}, erL (er n tb) es = some ms → (backTo pos (starEach es env)).any (·.1) = false
  | [], _, _ => rfl
  | e :: es, ms, h => by
    unfold erL at h
    split at h
    · rename_i h1 h2
      rw [star_ok (er_star h1)]
      show (false || (backTo pos (starEach es env)).any (·.1)) = false
      rw [plain_ok h2]
      rfl
    · cases h
theorem few_ok {n : Nat} {e : Expr} {m : E} {env : Env} {cpos : Pos} (h : er n tb e = some m) : ((backTo cpos (starEach [e] env)).all (fun x => !x.1) && (backToKw cpos (keywordEach [] env)).all (fun x => x.1.isSome) && decide ([e].length + ([] : List Keyword).length + (if ([] : List Keyword).isEmpty then 0 else 1) < 30)) = true := by
  rw [star_ok (er_star h)]
  rfl
/-- the promise of er -/
abbrev ErOk (g : Gl0) (Wx : WX) (C : Cal) (X : Cx) (f : Expr → Option E) : Prop := ∀ e m, f e = some m → SE g Wx C X e m
theorem tA_er {n : Nat} (ih : ErOk g Wx C X (er n tb)) : ∀ {es : List Expr} {ms : List E}, erL (er n tb) es = some ms → PA X es (tA g Wx C ms)
  | [], ms, h => by cases h; exact tA_nil
  | e :: es, ms, h => by
    unfold erL at h
    split at h
    · rename_i h1 h2
      cases h
      exact tA_cons (ih _ _ h1).val (tA_er ih h2) (star_ok (er_star h1))
    · cases h
theorem tAS_er {n : Nat} (hK : X.K = g.K) (ih : ErOk g Wx C X (er n tb)) : ∀ {es : List Expr} {ms : List Bool × List E}, erSt (er n tb) es = some ms → PA X es (tAS g Wx C ms.2 ms.1)
  | [], ms, h => by cases h; exact tAS_nil
  | e :: es, ms, h => by
    unfold erSt at h
    split at h
    · rename_i heq; cases heq
    · rename_i heq
      cases heq
      split at h
      · rename_i h1 h2
        cases h
        exact tAS_star hK (ih _ _ h1).val (tAS_er hK ih h2)
      · cases h
    · rename_i heq
      cases heq
      split at h
      · rename_i h1 h2
        cases h
        exact tAS_cons (ih _ _ h1).val (tAS_er hK ih h2) (star_ok (er_star h1))
      · cases h
theorem tAV_er {n : Nat} (ih : ErOk g Wx C X (er n tb)) : ∀ {es : List Expr} {ms : List E}, erL (er n tb) es = some ms → PA X es (tAV g Wx C ms)
  | [], ms, h => by cases h; exact tAV_nil
  | e :: es, ms, h => by
    unfold erL at h
    split at h
    · rename_i h1 h2
      cases h
      exact tAV_cons (ih _ _ h1).val (tAV_er ih h2) (star_ok (er_star h1))
    · cases h
theorem erL_len {f : Expr → Option E} : ∀ {es : List Expr} {ms : List E}, erL f es = some ms → es.length = ms.length
  | [], ms, h => by cases h; rfl
  | e :: es, ms, h => by
    unfold erL at h
    split at h
    · rename_i h1 h2
      cases h
      exact congrArg Nat.succ (erL_len h2)
    · cases h
/-! ### operators -/
theorem bin_er {a b : Expr} {ma mb : E} {o : Bop} {op : Operator} {pos : Pos} (hK : X.K = g.K) (ha : SE g Wx C X a ma) (hb : SE g Wx C X b mb) (ho : bopOf op = some o) : SE g Wx C X (.BinOp a op b pos) (.bin o ma mb) := by
  have hm : ∀ (o : Bop) ρ S, ev C (.bin o ma mb) ρ S = (opd ma ρ S (ev C ma ρ S)).bind fun x ρ S => (opd mb ρ S (ev C mb ρ S)).bind fun y ρ S => lift ((x.get ρ).bind fun x => (y.get ρ).bind fun y => binD o x y) ρ S := fun o ρ S => by rw [ev]
  refine SE.of ?_ (fun _ z => by cases z) fun _ => rfl
  cases op <;> cases ho
  · exact tE_op2 (pe_op op_addA ha.opd hb.opd) (by rw [hK]; exact ok_add) (hm _)
  · exact tE_op2 (pe_op op_sub ha.opd hb.opd) ok_sub (hm _)
  · exact tE_op2 (pe_op op_mulA ha.opd hb.opd) (by rw [hK]; exact ok_mul) (hm _)
  · exact tE_op2 (pe_op op_mod ha.opd hb.opd) ok_mod (hm _)
  · exact tE_op2 (pe_op op_pow ha.opd hb.opd) ok_pow (hm _)
  · exact tE_op2 (pe_op op_fdivW ha.opd hb.opd) ok_fdiv (hm _)
/-- a comparison's rule -/
theorem cop_ok (c : Ctx g Wx C k tb X) (op : CmpOp) : ∃ r, OpR X (compareOp op) r ∧ CmOk g (cmpD (copOf op)) r := by
  have hu := c.units
  cases op with
  | Eq => exact ⟨_, OpR.or (OpR.or (op_eqD (by omega)) op_eq) (op_eqT0 (by omega)), by rw [c.K]; exact ok_eq⟩
  | NotEq => exact ⟨_, OpR.or (op_neD (by omega)) op_ne, by rw [c.K]; exact ok_ne⟩
  | Lt => exact ⟨_, OpR.or (op_ltD hu) op_lt, by rw [c.K]; exact ok_lt⟩
  | LtE => exact ⟨_, op_le, ok_le⟩
  | Gt => exact ⟨_, op_gt, ok_gt⟩
  | GtE => exact ⟨_, op_ge, ok_ge⟩
  | Is => exact ⟨_, op_isN, ok_is⟩
  | IsNot => exact ⟨_, op_notN, ok_isn⟩
  | In => exact ⟨_, OpR.or (op_inD hu) (op_inDT hu), by rw [c.K]; exact ok_in⟩
  | NotIn => exact ⟨_, OpR.or (op_notInD hu) (op_notInDT hu), by rw [c.K]; exact ok_nin⟩
theorem cmp_er {n : Nat} {a : Expr} {ops : List CmpOp} {bs : List Expr} {m : E} {pos : Pos} (c : Ctx g Wx C k tb X) (ih : ErOk g Wx C X (er n tb)) (h : erCmp (er n tb) a ops bs = some m) : SE g Wx C X (.Compare a ops bs pos) m := by
  unfold erCmp at h
  split at h
  · rename_i op b
    split at h
    · cases h
    · rename_i hb
      split at h
      · rename_i h1 h2
        cases h
        obtain ⟨r, hr, ok⟩ := cop_ok c op
        have hb : behindInMarks op b = false := by simpa using hb
        have e := tE_cmp (Wx := Wx) (C := C) (pe_cmpR (pos := pos) hr (ih _ _ h1).opd (ih _ _ h2).opd hb) ok
        exact ⟨e, tO_of e (fun _ z => by cases z), tT_cmp (pt_cmpR hr (ih _ _ h1).opd (ih _ _ h2).opd hb) ok⟩
      · cases h
  · rename_i op op2 b d
    split at h
    · cases h
    · rename_i hb
      split at h
      · rename_i h1 h2 h3
        cases h
        obtain ⟨r, hr, ok⟩ := cop_ok c op
        obtain ⟨r2, hr2, ok2⟩ := cop_ok c op2
        have hb : lastMarks [op, op2] [b, d] = false := by simpa using hb
        have e := tE_chn (Wx := Wx) (C := C) (pos := pos) hr hr2 ok ok2 (ih _ _ h1).opd (ih _ _ h2).opd (ih _ _ h3).opd hb
        exact ⟨e, tO_of e (fun _ z => by cases z), tT_chn hr hr2 ok ok2 (ih _ _ h1).opd (ih _ _ h2).opd (ih _ _ h3).opd hb⟩
      · cases h
  · cases h
theorem irg_er {n : Nat} {a : Expr} {ops : List CmpOp} {bs : List Expr} {m : E} {pos : Pos} (c : Ctx g Wx C k tb X) (ih : ErOk g Wx C X (er n tb)) (h : erIrg tb (er n tb) a ops bs = some m) : SE g Wx C X (.Compare a ops bs pos) m := by
  unfold erIrg at h
  split at h
  · rename_i op b
    split at h
    · rename_i x p0 e p1
      split at h
      · rename_i hc
        simp only [Bool.and_eq_true, Bool.not_eq_true'] at hc
        obtain rfl := eq_of_beq hc.1.2
        obtain ⟨hg, hm⟩ := c.blt hc.1.1
        split at h
        · rename_i h1 h2
          cases h
          have ha : PA X [e] (tCons (tE g Wx C _) tNil) := pa_cons (ih _ _ h2).val pa_nil (star_ok (er_star h2))
          have hst : starEach [e] X.env = (false, eval e X.env) :: starEach [] X.env := star_ok (er_star h2)
          have hr := pe_callTy (p := p0) (pos := p1) cr_range1 hg hm boot_range ha (he := hst)
          have e := tE_irg (pe_cmpR (pos := pos) op_irg_in (ih _ _ h1).val hr hc.2)
          exact ⟨e, tO_of e (fun _ z => by cases z), tT_irg (pt_cmpR op_irg_in (ih _ _ h1).val hr hc.2)⟩
        · rename_i h1 h2
          cases h
          have ha : PA X [e] (tCons (tE g Wx C _) tNil) := pa_cons (ih _ _ h2).val pa_nil (star_ok (er_star h2))
          have hst : starEach [e] X.env = (false, eval e X.env) :: starEach [] X.env := star_ok (er_star h2)
          have hr := pe_callTy (p := p0) (pos := p1) cr_range1 hg hm boot_range ha (he := hst)
          have e := tE_irg (pe_cmpR (pos := pos) op_irg_nin (ih _ _ h1).val hr hc.2)
          exact ⟨e, tO_of e (fun _ z => by cases z), tT_irg (pt_cmpR op_irg_nin (ih _ _ h1).val hr hc.2)⟩
        · cases h
      · cases h
    · cases h
  · cases h
theorem and_er {n : Nat} {pos : Pos} (ih : ErOk g Wx C X (er n tb)) : ∀ {es : List Expr} {m : E}, erBool (er n tb) .and es = some m → PE X (.BoolOp .And es pos) (tE g Wx C m) ∧ PW X (.BoolOp .And es pos) (tT g Wx C m)
  | [], m, h => by cases h
  | [e], m, h => ⟨pe_one (ih _ _ h).val, pw_and1 (ih _ _ h).tst⟩
  | e :: e2 :: es, m, h => by
    unfold erBool at h
    split at h
    · rename_i h1 h2
      cases h
      obtain ⟨p1, p2⟩ := and_er ih (es := e2 :: es) h2
      exact ⟨tE_and (ih _ _ h1).val p1, tT_and (ih _ _ h1).tst p2⟩
    · cases h
theorem or_er {n : Nat} {pos : Pos} (ih : ErOk g Wx C X (er n tb)) : ∀ {es : List Expr} {m : E}, erBool (er n tb) .or es = some m → PE X (.BoolOp .Or es pos) (tE g Wx C m) ∧ PW X (.BoolOp .Or es pos) (tT g Wx C m)
  | [], m, h => by cases h
  | [e], m, h => ⟨pe_one (ih _ _ h).val, pw_or1 (ih _ _ h).tst⟩
  | e :: e2 :: es, m, h => by
    unfold erBool at h
    split at h
    · rename_i h1 h2
      cases h
      obtain ⟨p1, p2⟩ := or_er ih (es := e2 :: es) h2
      exact ⟨tE_or (ih _ _ h1).val p1, tT_or (ih _ _ h1).tst p2⟩
    · cases h
/-- what a BoolOp turns into is no name, but where it has one part -/
theorem bool_var {n : Nat} {mk : E → E → E} (hmk : ∀ a b i, mk a b ≠ .var i) : ∀ {es : List Expr} {m : E}, erBool (er n tb) mk es = some m → (∀ i, m ≠ .var i) ∨ ∃ e, es = [e]
  | [], m, h => by cases h
  | [e], m, h => .inr ⟨e, rfl⟩
  | e :: e2 :: es, m, h => by
    unfold erBool at h
    split at h
    · cases h; exact .inl fun i => hmk _ _ i
    · cases h
/-! ### subscripts -/
theorem part_er {n : Nat} (ih : ErOk g Wx C X (er n tb)) {e : Option Expr} {m : E} (h : erPart (er n tb) e = some m) : PO X e (tOp_ g Wx C m) := by
  unfold erPart at h
  split at h
  · cases h; exact po_non
  · split at h
    · cases h
    · rename_i hn h1
      cases h
      exact po_e (ih _ _ h1).val fun z => hn z
    · cases h
theorem plainIx_ok {n : Nat} {e : Expr} {m : E} (h : er n tb e = some m) : PlainIx e := by
  intro o i
  cases e <;> first | rfl | (cases n <;> cases h)
theorem isRev_ok {lo hi st : Option Expr} (h : isRev lo hi st = true) : ∃ k p1 p2, lo = none ∧ hi = none ∧ st = some (.UnaryOp .USub (.Constant (.int 1) k p1) p2) := by
  unfold isRev at h
  split at h
  · exact ⟨_, _, _, rfl, rfl, rfl⟩
  · cases h
theorem skOf_eq {k : Str} {q : SK} (h : skOf k = some q) : k = q.nm := by
  unfold skOf at h
  split at h
  · rename_i e; cases h; exact eq_of_beq e
  · split at h
    · rename_i e; cases h; exact eq_of_beq e
    · split at h
      · rename_i e; cases h; exact eq_of_beq e
      · cases h
theorem Ctx.hu (c : Ctx g Wx C k tb X) : X.A.units + 1 < cLine := by have := c.room.un; omega
theorem sub_er {n : Nat} {a i : Expr} {m : E} {pos : Pos} (c : Ctx g Wx C k tb X) (ih : ErOk g Wx C X (er n tb)) (h : erSub tb (er n tb) a i = some m) : SE g Wx C X (.Subscript a i pos) m := by
  unfold erSub at h
  split at h
  · split at h
    · rename_i hr
      obtain ⟨k, p1, p2, rfl, rfl, rfl⟩ := isRev_ok hr
      cases e1 : er n tb a with
      | none => rw [e1] at h; cases h
      | some ma =>
        rw [e1] at h
        cases h
        exact SE.of (tE_rev c.K (ih _ _ e1).opd) (fun _ z => by cases z) fun _ => rfl
    · split at h
      · split at h
        · rename_i h1 h2 h3
          cases h
          exact SE.of (tE_sl c.K (ih _ _ h1).opd (part_er ih h2) (part_er ih h3)) (fun _ z => by cases z) fun _ => rfl
        · cases h
      · cases h
  · split at h
    · split at h
      · split at h
        · rename_i e1 e2
          cases h
          obtain rfl := skOf_eq e2
          exact SE.of (tE_sget c.hu (c.var e1)) (fun _ z => by cases z) fun _ => rfl
        · cases h
      · cases h
    · cases e1 : er n tb a with
      | none => rw [e1] at h; cases h
      | some ma =>
        rw [e1] at h
        cases h
        exact SE.of (tE_key c.hu (ih _ _ e1).opd) (fun _ z => by cases z) fun _ => rfl
  · split at h
    · rename_i h1 h2
      cases h
      refine SE.of (tE_op2 (pe_ix (ix_seq (X := X)) (ih _ _ h1).opd (ih _ _ h2).opd (plainIx_ok h2)) ?_ fun ρ S => by rw [ev]) (fun _ z => by cases z) fun _ => rfl
      rw [c.K]
      exact ok_ix
    · cases h
/-! ### calls -/
theorem eq_of_if {x y : Str} (h : (x == y) = true) : x = y := eq_of_beq h
theorem b1_er {n : Nat} {x : Str} {a : Expr} {b : B1} {m : E} {p pos : Pos} (c : Ctx g Wx C k tb X) (ih : ErOk g Wx C X (er n tb)) (hb : b1Of tb x = some b) (h : er n tb a = some m) : SE g Wx C X (.Call (.Name x p) [a] [] pos) (.b1 b m) := by
  have ha : PA X [a] (tCons (tO g Wx C m) tNil) := pa_cons (ih _ _ h).opd pa_nil (star_ok (er_star h))
  have hst : starEach [a] X.env = (false, eval a X.env) :: starEach [] X.env := star_ok (er_star h)
  refine SE.of ?_ (fun _ z => by cases z) fun _ => rfl
  unfold b1Of at hb
  split at hb
  · cases hb
  · rename_i hx
    obtain ⟨hg, hm⟩ := c.blt (by simpa using hx)
    split at hb
    · rename_i e; cases hb; obtain rfl := eq_of_if e
      exact tE_b1 (pe_callB call_lenA hg hm boot_len ha (he := hst)) (by rw [c.K]; exact ok_len)
    · split at hb
      · rename_i e; cases hb; obtain rfl := eq_of_if e
        exact tE_b1 (pe_callTy call_tupleF hg hm boot_tuple ha (he := hst)) (by rw [c.K]; exact ok_tuple)
      · split at hb
        · rename_i e; cases hb; obtain rfl := eq_of_if e
          exact tE_b1 (pe_callTy call_list_of hg hm boot_list ha (he := hst)) (by rw [c.K]; exact ok_list)
        · split at hb
          · rename_i e; cases hb; obtain rfl := eq_of_if e
            exact tE_b1 (pe_callTy call_int1 hg hm boot_int ha (he := hst)) ok_int1
          · split at hb
            · rename_i e; cases hb; obtain rfl := eq_of_if e
              exact tE_b1 (pe_callB call_abs hg hm boot_abs ha (he := hst)) ok_abs
            · split at hb
              · rename_i e; cases hb; obtain rfl := eq_of_if e
                exact tE_b1 (pe_callB (cr_sum c.calm) hg hm boot_sum ha (he := hst)) (by rw [c.K]; exact ok_sum)
              · split at hb
                · rename_i e; cases hb; obtain rfl := eq_of_if e
                  exact tE_b1 (pe_callB (cr_any c.calm) hg hm boot_any ha (he := hst)) (by rw [c.K]; exact ok_any)
                · split at hb
                  · rename_i e; cases hb; obtain rfl := eq_of_if e
                    exact tE_b1 (pe_callB (cr_all c.calm) hg hm boot_all ha (he := hst)) (by rw [c.K]; exact ok_all)
                  · split at hb
                    · rename_i e; cases hb; obtain rfl := eq_of_if e
                      exact tE_b1 (pe_callB (call_repr c.units c.gu) hg hm boot_repr ha (he := hst)) (by rw [c.K]; exact ok_repr)
                    · unfold b1Of2 at hb
                      split at hb
                      · rename_i e; cases hb; obtain rfl := eq_of_if e
                        exact tE_b1 (pe_callB (cr_sortedV c.units) hg hm boot_sorted ha (he := hst)) (by rw [c.K]; exact ok_sorted)
                      · split at hb
                        · rename_i e; cases hb; obtain rfl := eq_of_if e
                          exact tE_b1 (pe_callTy call_str_int hg hm boot_str ha (he := hst)) ok_str1
                        · split at hb
                          · rename_i e; cases hb; obtain rfl := eq_of_if e
                            exact tE_b1 (pe_callB (cr_max c.calm) hg hm boot_max ha (he := hst)) (by rw [c.K]; exact ok_max)
                          · split at hb
                            · rename_i e; cases hb; obtain rfl := eq_of_if e
                              exact tE_b1 (pe_callB (cr_min c.calm) hg hm boot_min ha (he := hst)) (by rw [c.K]; exact ok_min)
                            · cases hb
theorem rev_er {n : Nat} {x : Str} {args : List Expr} {kw : Keyword} {m : E} {p pos : Pos} (c : Ctx g Wx C k tb X) (ih : ErOk g Wx C X (er n tb)) (h : erRev tb (er n tb) x args kw = some m) : SE g Wx C X (.Call (.Name x p) args [kw] pos) m := by
  unfold erRev at h
  split at h
  · rename_i a kn j p1 p2
    split at h
    · rename_i hc
      simp only [Bool.and_eq_true] at hc
      obtain rfl := eq_of_if hc.1.2
      obtain rfl := eq_of_if hc.2
      obtain ⟨hg, hm⟩ := c.blt hc.1.1
      cases e1 : er n tb a with
      | none => rw [e1] at h; cases h
      | some ma =>
        rw [e1] at h
        cases h
        have ha : PA X [a] (tCons (tO g Wx C ma) tNil) := pa_cons (ih _ _ e1).opd pa_nil (star_ok (er_star e1))
        have hst : starEach [a] X.env = (false, eval a X.env) :: starEach [] X.env := star_ok (er_star e1)
        refine SE.of ?_ (fun _ z => by cases z) fun _ => rfl
        have q : PE X (.Call (.Name "sorted" p) [a] [⟨some "reverse", .Constant (.bool true) j p1, p2⟩] pos) (tCB (fun vs H Q => rSortedUR X.K vs [.bl true] H Q) (tCons (tO g Wx C ma) tNil)) :=
          pe_callBK (tk := tCons (tC (.bl true)) tNil) cr_sortedUR hg hm boot_sorted ha (pk_cons pe_bl pk_nil) (he := by rw [hst]; rfl) (hpl := by rw [hst]; rfl)
        exact tE_b1 q (by rw [c.K]; exact ok_sortR)
    · cases h
  · cases h
theorem b2_er {n : Nat} {x : Str} {a b : Expr} {o : B2} {m m2 : E} {p pos : Pos} (c : Ctx g Wx C k tb X) (ih : ErOk g Wx C X (er n tb)) (hb : b2Of tb x = some o) (h : er n tb a = some m) (h2 : er n tb b = some m2) : SE g Wx C X (.Call (.Name x p) [a, b] [] pos) (.b2 o m m2) := by
  have hst2 : starEach [b] X.env = (false, eval b X.env) :: starEach [] X.env := star_ok (er_star h2)
  have hst : starEach [a, b] X.env = (false, eval a X.env) :: starEach [b] X.env := star_ok (er_star h)
  have ha : PA X [a, b] (tCons (tE g Wx C m) (tCons (tE g Wx C m2) tNil)) := pa_cons (ih _ _ h).val (pa_cons (ih _ _ h2).val pa_nil hst2) hst
  have hpl : (backTo pos (starEach [b] X.env)).any (·.1) = false := by rw [hst2]; rfl
  refine SE.of ?_ (fun _ z => by cases z) fun _ => rfl
  unfold b2Of at hb
  split at hb
  · cases hb
  · rename_i hx
    obtain ⟨hg, hm⟩ := c.blt (by simpa using hx)
    split at hb
    · rename_i e; cases hb; obtain rfl := eq_of_if e
      exact tE_b2 (f := fun i j => if j > i then j else i) (pe_callB (r := r2i _) (call_max2 c.calm) hg hm boot_max ha (he := hst) (hpl := hpl)) b2_max
    · split at hb
      · rename_i e; cases hb; obtain rfl := eq_of_if e
        exact tE_b2 (f := fun i j => if j < i then j else i) (pe_callB (r := r2i _) (call_min2 c.calm) hg hm boot_min ha (he := hst) (hpl := hpl)) b2_min
      · cases hb
theorem ty_er {e : Expr} {t : Ty} (c : Ctx g Wx C k tb X) (h : tyOf tb e = some t) : PE X e (tC (.ty t.nm)) ∧ ∀ v p, e ≠ .Starred v p := by
  unfold tyOf at h
  split at h
  · split at h
    · cases h
    · rename_i hx
      obtain ⟨hg, hm⟩ := c.blt (by simpa using hx)
      refine ⟨?_, fun _ _ z => by cases z⟩
      split at h
      · rename_i e; cases h; obtain rfl := eq_of_if e; exact pe_bltn hg hm boot_int rfl
      · split at h
        · rename_i e; cases h; obtain rfl := eq_of_if e; exact pe_bltn hg hm boot_bool rfl
        · split at h
          · rename_i e; cases h; obtain rfl := eq_of_if e; exact pe_bltn hg hm boot_str rfl
          · split at h
            · rename_i e; cases h; obtain rfl := eq_of_if e; exact pe_bltn hg hm boot_list rfl
            · split at h
              · rename_i e; cases h; obtain rfl := eq_of_if e; exact pe_bltn hg hm boot_tuple rfl
              · split at h
                · rename_i e; cases h; obtain rfl := eq_of_if e; exact pe_bltn hg hm boot_dict rfl
                · cases h
  · cases h
theorem tys_er (c : Ctx g Wx C k tb X) : ∀ {es : List Expr} {ts : List Ty}, tysOf tb es = some ts → PA X es (fun σ H Q => Q (ts.map fun t => V.ty t.nm) H)
  | [], ts, h => by cases h; exact pa_nil
  | e :: es, ts, h => by
    unfold tysOf at h
    split at h
    · rename_i h1 h2
      cases h
      obtain ⟨p, hs⟩ := ty_er c h1
      exact pa_cons p (tys_er c h2) (star_ok hs)
    · cases h
theorem isi_er {n : Nat} {a b : Expr} {m r : E} {p pos : Pos} (c : Ctx g Wx C k tb X) (ih : ErOk g Wx C X (er n tb)) (hx : tb.blt "isinstance" = true) (h : er n tb a = some m)
    (hr : (match b with
            | .Tuple ts _ _ => (match tysOf tb ts with
              | some tys => if tys.length ≤ 1000 then some (.isi tys m) else none
              | none => none)
            | _ => (tyOf tb b).map fun t => E.isi [t] m) = some r) : SE g Wx C X (.Call (.Name "isinstance" p) [a, b] [] pos) r := by
  obtain ⟨hg, hm⟩ := c.blt hx
  have hst : starEach [a, b] X.env = (false, eval a X.env) :: starEach [b] X.env := star_ok (er_star h)
  split at hr
  · split at hr
    · split at hr
      · rename_i ts _ _ tys e1 hl
        cases hr
        refine SE.of ?_ (fun _ z => by cases z) fun _ => rfl
        refine tE_isiN (tc := fun σ H Q => Q (tys.map fun t => V.ty t.nm) H) (pe_callB (r := rIsiT g.K) ?_ hg hm boot_isinstance (pa_cons (ih _ _ h).opd (pa_cons (pe_tup (tys_er c e1)) pa_nil) hst) (he := hst)) (fun _ _ _ q => q) hl
        rw [← c.K]
        exact call_isiT
      · cases hr
    · cases hr
  · cases e1 : tyOf tb b with
    | none => rw [e1] at hr; cases hr
    | some t =>
      rw [e1] at hr
      cases hr
      obtain ⟨pb, hs⟩ := ty_er c e1
      have hpl : (backTo pos (starEach [b] X.env)).any (·.1) = false := by rw [star_ok hs]; rfl
      refine SE.of ?_ (fun _ z => by cases z) fun _ => rfl
      refine tE_isi1 (pe_callB (r := rIsi g.K) ?_ hg hm boot_isinstance (pa_cons (ih _ _ h).opd (pa_cons pb pa_nil (star_ok hs)) hst) (he := hst) (hpl := hpl))
      rw [← c.K]
      exact call_isi
theorem fn_er {n num np : Nat} {x : Str} {args : List Expr} {ms : List E} {p pos : Pos} (c : Ctx g Wx C k tb X) (ih : ErOk g Wx C X (er n tb)) (hf : fnOf? x tb.gl = some (num, np)) (hgl : tb.glo x = true) (h : erL (er n tb) args = some ms) (hn : ms.length = np) :
    SE g Wx C X (.Call (.Name x p) args [] pos) (.call num ms) := by
  obtain ⟨f, fd, ps, h1, h2, h3, h4, h5⟩ := c.gl x num np hf
  obtain ⟨hg, hd⟩ := c.glo hgl
  have hx : ∀ σ, PassesAt (L2.CX X.prog X.w) X σ (WE Wx σ) := passAt c.takes
  refine SE.of ?_ (fun _ z => by cases z) fun _ => rfl
  cases args with
  | nil =>
    cases h
    refine tE_call (np := np) (PE.weak (pe_callG0 h5 c.room.r c.gu h3 hg h1 h2 hx hd) fun σ H Q q => ?_) hn
    obtain ⟨Φ, W, ρ, S, s, q⟩ := q
    have q : Pst g Wx σ (Own ρ σ) Φ H W (RL g) (evs C [] ρ S) _ := q
    rw [evs] at q
    exact q.okv s .nil
  | cons e es =>
    have h' := h
    unfold erL at h'
    split at h'
    · rename_i e1 e2
      exact tE_call (np := np) (pe_callG h5 c.room.r c.gu h3 hg h1 h2 hx (tA_er ih h) hd (star_ok (er_star e1)) (plain_ok e2)) hn
    · cases h'
theorem tAO_er {n : Nat} (ih : ErOk g Wx C X (er n tb)) : ∀ {es : List Expr} {ms : List E}, erL (er n tb) es = some ms → PA X es (tAO g Wx C ms)
  | [], ms, h => by cases h; exact tAO_nil
  | e :: es, ms, h => by
    unfold erL at h
    split at h
    · rename_i h1 h2
      cases h
      exact tAO_cons (ih _ _ h1).opd (tAO_er ih h2) (star_ok (er_star h1))
    · cases h
theorem fnb_er {n num np : Nat} {x : Str} {args : List Expr} {ms : List E} {p pos : Pos} (c : Ctx g Wx C k tb X) (ih : ErOk g Wx C X (er n tb)) (hf : fnOf? x tb.gl = some (num, np)) (hgl : tb.glo x = true) (h : erL (er n tb) args = some ms) (hn : ms.length = np) :
    SE g Wx C X (.Call (.Name x p) args [] pos) (.bcall num ms) := by
  obtain ⟨f, fd, ps, h1, h2, h3, h4, h5⟩ := c.gl x num np hf
  obtain ⟨hg, hd⟩ := c.glo hgl
  have hx : ∀ σ, PassesAt (L2.CX X.prog X.w) X σ (WE Wx σ) := passAt c.takes
  refine SE.of ?_ (fun _ z => by cases z) fun _ => rfl
  cases args with
  | nil =>
    cases h
    refine tE_bcall (np := np) (PE.weak (pe_callG0 h5 c.room.r c.gu h3 hg h1 h2 hx hd) fun σ H Q q => ?_) hn
    obtain ⟨Φ, W, ρ, S, s, q⟩ := q
    have q : Pst g Wx σ (Own ρ σ) Φ H W (RLO g σ) (evO C [] ρ S) _ := q
    rw [evO] at q
    exact q.okv s trivial
  | cons e es =>
    have h' := h
    unfold erL at h'
    split at h'
    · rename_i e1 e2
      exact tE_bcall (np := np) (pe_callG h5 c.room.r c.gu h3 hg h1 h2 hx (tAO_er ih h) hd (star_ok (er_star e1)) (plain_ok e2)) hn
    · cases h'
theorem rng_er {n : Nat} {a : Expr} {ms : List E} (c : Ctx g Wx C k tb X) (ih : ErOk g Wx C X (er n tb)) (h : erRange tb (er n tb) a = some ms) : (∃ m, ms = [m] ∧ PRg X a (tRg1F (tA g Wx C [m]))) ∨ ∃ m m2, ms = [m, m2] ∧ PRg X a (tRg2F (tA g Wx C [m, m2])) := by
  unfold erRange at h
  split at h
  · split at h
    · rename_i hc
      rw [Bool.and_eq_true] at hc
      obtain rfl := eq_of_if hc.2
      obtain ⟨hg, hm⟩ := c.blt hc.1
      split at h
      · rename_i a
        cases e1 : er n tb a with
        | none => rw [e1] at h; cases h
        | some m =>
          rw [e1] at h
          cases h
          exact .inl ⟨m, rfl, prg_1F hg hm (tA_cons (ih _ _ e1).val tA_nil (star_ok (er_star e1))) (star_ok (er_star e1))⟩
      · split at h
        · rename_i e1 e2
          cases h
          exact .inr ⟨_, _, rfl, prg_2F hg hm (tA_cons (ih _ _ e1).val (tA_cons (ih _ _ e2).val tA_nil (star_ok (er_star e2))) (star_ok (er_star e1))) (star_ok (er_star e1)) (by rw [star_ok (er_star e2)]; rfl)⟩
        · cases h
      · cases h
    · cases h
  · cases h
theorem erRange_star {f : Expr → Option E} {a : Expr} {ms : List E} (h : erRange tb f a = some ms) : ∀ v p, a ≠ .Starred v p := by
  rintro v p rfl
  cases h
theorem cells_eq {e : Expr} {i : Nat} (h : cellsOf tb e = some i) : ∃ y p1 j p2 p3, e = .Subscript (.Name y p1) (.Constant (.str "cells") j p2) p3 ∧ tb.var y = some i := by
  unfold cellsOf at h
  split at h
  · split at h
    · rename_i hc
      rw [Bool.and_eq_true] at hc
      obtain rfl := eq_of_if hc.2
      exact ⟨_, _, _, _, _, rfl, h⟩
    · cases h
  · cases h
theorem keys_pps {n : Nat} {pos : Pos} (ih : ErOk g Wx C X (er n tb)) : ∀ {ks : List (Option Expr)} {vs : List Expr} {a : List Key} {ms : List E}, keysOf ks = some a → erL (er n tb) vs = some ms → a.length = ms.length → PPs X pos ks vs (prsT g Wx C a ms) ∧ ks.all (·.isSome) = true ∧ ks.length = vs.length ∧ ks.length = a.length
  | [], [], a, ms, h1, h2, _ => by cases h1; cases h2; exact ⟨pps_nil, rfl, rfl, rfl⟩
  | [], v :: vs, a, ms, h1, h2, hl => by
    cases h1
    have := erL_len h2
    rw [List.length_cons] at this
    simp at hl
    omega
  | k :: ks, [], a, ms, h1, h2, hl => by
    cases h2
    unfold keysOf at h1
    split at h1
    · cases h1; cases hl
    · cases h1
  | k :: ks, v :: vs, a, ms, h1, h2, hl => by
    unfold keysOf at h1
    unfold erL at h2
    split at h1
    · rename_i k0 r hk hr
      split at h2
      · rename_i m0 ms0 hm hms
        cases h1
        cases h2
        obtain ⟨p, q1, q2, q3⟩ := keys_pps ih (ks := ks) (vs := vs) hr hms (Nat.succ.inj hl)
        unfold keyOf at hk
        split at hk
        · cases hk
          exact ⟨pps_cons pe_str (ih _ _ hm).val p, by rw [List.all_cons, q1]; rfl, congrArg Nat.succ q2, congrArg Nat.succ q3⟩
        · cases hk
          exact ⟨pps_cons pe_int (ih _ _ hm).val p, by rw [List.all_cons, q1]; rfl, congrArg Nat.succ q2, congrArg Nat.succ q3⟩
        · cases hk
      · cases h2
    · cases h1
theorem dict_er {n : Nat} {ks : List (Option Expr)} {vs : List Expr} {m : E} {pos : Pos} (ih : ErOk g Wx C X (er n tb)) (h : erDict tb (er n tb) ks vs = some m) : SE g Wx C X (.Dict ks vs pos) m := by
  unfold erDict at h
  split at h
  · split at h
    · rename_i a ms ha hms
      split at h
      · rename_i hc
        rw [Bool.and_eq_true, beq_iff_eq, decide_eq_true_iff] at hc
        cases h
        obtain ⟨p, q1, q2, q3⟩ := keys_pps (pos := pos) ih ha hms hc.1
        refine SE.of ?_ (fun _ z => by cases z) fun _ => rfl
        cases ks with
        | nil =>
          cases ha
          obtain rfl : vs = [] := List.length_eq_zero_iff.mp q2.symm
          cases hms
          exact tE_dic0
        | cons k0 ks0 => exact tE_dic p q1 q2 (fun z => nomatch z) (by rw [q3]; exact hc.2) hc.1
      · cases h
    · cases h
  split at h
  · split at h
    · rename_i hc
      simp only [Bool.and_eq_true] at hc
      obtain ⟨⟨⟨⟨_, h1⟩, h2⟩, h3⟩, h4⟩ := hc
      obtain rfl := eq_of_if h1
      obtain rfl := eq_of_if h2
      obtain rfl := eq_of_if h3
      obtain rfl := eq_of_if h4
      split at h
      · rename_i e1 e2 e3 e4
        cases h
        exact SE.of (tE_mks (ih _ _ e1).val (ih _ _ e2).val (ih _ _ e3).val (ih _ _ e4).val) (fun _ z => by cases z) fun _ => rfl
      · cases h
    · cases h
  · cases h
theorem make_er {n num np : Nat} {x : Str} {e : Expr} {es : List Expr} {ms : List E} {p pos : Pos} (c : Ctx g Wx C k tb X) (ih : ErOk g Wx C X (er n tb)) (hf : fnOf? x tb.cl = some (num, np)) (hgl : tb.glo x = true) (h : erL (er n tb) (e :: es) = some ms) (hn : ms.length = np) :
    SE g Wx C X (.Call (.Name x p) (e :: es) [] pos) (.make num ms) := by
  obtain ⟨f, fd, ps, h1, h2, h3, h5⟩ := c.cl x num np hf
  obtain ⟨hg, hd⟩ := c.glo hgl
  have hx : ∀ σ, PassesAt (L2.CX X.prog X.w) X σ (WE Wx σ) := passAt c.takes
  refine SE.of ?_ (fun _ z => by cases z) fun _ => rfl
  have h' := h
  unfold erL at h'
  split at h'
  · rename_i e1 e2
    exact tE_make (np := np) (pe_makeG h2 h5 c.room c.gu h3 hg h1 hx (tA_er ih h) hd (star_ok (er_star e1)) (plain_ok e2)) hn
  · cases h'
theorem call_er {n : Nat} {x : Str} {args : List Expr} {m : E} {p pos : Pos} (c : Ctx g Wx C k tb X) (ih : ErOk g Wx C X (er n tb)) (h : erCall tb (er n tb) x args = some m) : SE g Wx C X (.Call (.Name x p) args [] pos) m := by
  unfold erCall at h
  split at h
  · rename_i num np hf
    split at h
    · rename_i hgl
      split at h
      · rename_i ms hms
        split at h
        · rename_i hl
          have h := Option.some.inj h
          split at h
          · subst h
            exact fnb_er c ih hf hgl hms (eq_of_beq hl)
          · subst h
            exact fn_er c ih hf hgl hms (eq_of_beq hl)
        · cases h
      · cases h
    · cases h
  split at h
  · rename_i num np hf
    split at h
    · rename_i hgl
      split at h
      · rename_i ms hms
        split at h
        · rename_i hl
          cases h
          exact make_er c ih hf hgl hms (eq_of_beq hl)
        · cases h
      · cases h
    · cases h
  · split at h
    · rename_i a
      split at h
      · rename_i ms hr
        have hst : starEach [a] X.env = (false, eval a X.env) :: starEach [] X.env := star_ok (erRange_star hr)
        split at h
        · rename_i hc
          rw [Bool.and_eq_true] at hc
          obtain rfl := eq_of_if hc.2
          obtain ⟨hg, hm⟩ := c.blt hc.1
          cases h
          refine SE.of ?_ (fun _ z => by cases z) fun _ => rfl
          rcases rng_er c ih hr with ⟨m, rfl, pr⟩ | ⟨m, m2, rfl, pr⟩
          · exact tE_trng1 (pe_tupRgF c.calm hg hm pr hst)
          · exact tE_trng2 (pe_tupRgF c.calm hg hm pr hst)
        · split at h
          · rename_i hc
            rw [Bool.and_eq_true] at hc
            obtain rfl := eq_of_if hc.2
            obtain ⟨hg, hm⟩ := c.blt hc.1
            cases h
            refine SE.of ?_ (fun _ z => by cases z) fun _ => rfl
            rcases rng_er c ih hr with ⟨m, rfl, pr⟩ | ⟨m, m2, rfl, pr⟩
            · exact tE_lrng1 (pe_listRg c.calm hg hm pr hst)
            · exact tE_lrng2 (pe_listRg c.calm hg hm pr hst)
          · cases h
      · split at h
        · rename_i i hcl
          split at h
          · rename_i hc
            rw [Bool.and_eq_true] at hc
            obtain rfl := eq_of_if hc.2
            obtain ⟨hg, hm⟩ := c.blt hc.1
            cases h
            obtain ⟨y, p1, j, p2, p3, rfl, hv⟩ := cells_eq hcl
            exact SE.of (tE_slen c.hu (c.var hv) hg hm) (fun _ z => by cases z) fun _ => rfl
          · cases h
        · split at h
          · rename_i h1 h2
            cases h
            exact b1_er c ih h1 h2
          · cases h
    · split at h
      · rename_i h0
        split at h
        · rename_i h1 h2
          cases h
          exact b2_er c ih h0 h1 h2
        · cases h
      · split at h
        · rename_i hc
          rw [Bool.and_eq_true] at hc
          obtain rfl := eq_of_if hc.2
          split at h
          · rename_i h1
            exact isi_er c ih hc.1 h1 h
          · cases h
        · cases h
    · cases h
/-! ### methods of lists and tuples -/
theorem base_ok {o : Expr} {attr : Str} {env : Env} (h : noSup o = true) : attributeBase o attr env (eval o env) = eval o env := by
  unfold attributeBase
  split
  · cases h
  · rfl
theorem all_plain {n : Nat} {env : Env} {pos : Pos} : ∀ {es : List Expr} {ms : List E}, erL (er n tb) es = some ms → (backTo pos (starEach es env)).all (fun x => !x.1) = true
  | [], _, _ => rfl
  | e :: es, ms, h => by
    unfold erL at h
    split at h
    · rename_i h1 h2
      rw [star_ok (er_star h1)]
      show (true && (backTo pos (starEach es env)).all (fun x => !x.1)) = true
      rw [all_plain h2]
      rfl
    · cases h
theorem meth_ok {n : Nat} {o : Expr} {x : Str} {args : List Expr} {mo : E} {ms : List E} {apos pos : Pos} (c : Ctx g Wx C k tb X) (ih : ErOk g Wx C X (er n tb)) (hline : (apos.endLine == pos.line) = true) (e1 : er n tb o = some mo) (e2 : erL (er n tb) args = some ms) (hs : noSup o = true) (hl : args.length < 30) :
    PE X (.Call (.Attribute o x apos) args [] pos) (tE g Wx C (.meth x mo ms)) := by
  have hx : ∀ σ, PassesAt (L2.CX X.prog X.w) X σ (WE Wx σ) := passAt c.takes
  cases args with
  | nil =>
    cases e2
    refine tE_meth c.K c.me (fun σ H Q q => ?_) (pe_methG0 (ih _ _ e1).val c.room.r c.gu hx (base_ok hs) hline)
    obtain ⟨Φ, W, ρ, S, s, q⟩ := q
    have q : Pst g Wx σ (Own ρ σ) Φ H W (RL g) (evs C [] ρ S) _ := q
    rw [evs] at q
    exact q.okv s .nil
  | cons e es =>
    have h' := e2
    unfold erL at h'
    split at h'
    · rename_i h1 h2
      refine tE_meth c.K c.me (fun σ H Q q => q) (pe_methG (ih _ _ e1).val c.room.r c.gu hx (tA_er ih e2) (star_ok (er_star h1)) (plain_ok h2) (base_ok hs) ?_ hline)
      unfold methodCallForm
      rw [all_plain e2]
      show (true && true && decide ((e :: es).length + 0 + 0 < 30)) = true
      rw [decide_eq_true (by omega)]
      rfl
    · cases h'
theorem meth_er {n : Nat} {o : Expr} {x : Str} {args : List Expr} {m : E} {apos pos : Pos} (c : Ctx g Wx C k tb X) (ih : ErOk g Wx C X (er n tb)) (hline : (apos.endLine == pos.line) = true) (h : erMeth tb (er n tb) o x args = some m) : SE g Wx C X (.Call (.Attribute o x apos) args [] pos) m := by
  unfold erMeth at h
  split at h
  · rename_i e
    obtain rfl := eq_of_if e
    split at h
    · rename_i y p
      cases e1 : tb.var y with
      | none => rw [e1] at h; cases h
      | some i =>
        rw [e1] at h
        cases h
        exact SE.of (tE_pop0 (c.var e1) rfl hline) (fun _ z => by cases z) fun _ => rfl
    · cases e1 : cellsOf tb (.Subscript _ _ _) with
      | none => rw [e1] at h; cases h
      | some i =>
        rw [e1] at h
        cases h
        obtain ⟨y, p1, j, p2, p3, e2, hv⟩ := cells_eq e1
        cases e2
        exact SE.of (tE_spop c.hu (c.var hv) hline) (fun _ z => by cases z) fun _ => rfl
    · split at h
      · rename_i e1 e2
        cases h
        exact SE.of (tE_pop (c.var e1) (ih _ _ e2).val rfl (few_ok e2) hline (star_ok (er_star e2))) (fun _ z => by cases z) fun _ => rfl
      · cases h
    · split at h
      · rename_i e1 e2 e3 e4
        cases h
        exact SE.of (tE_popIf (ih _ _ e1).tst (c.var e2) (c.var e3) (ih _ _ e4).val rfl (few_ok e4) hline (star_ok (er_star e4))) (fun _ z => by cases z) fun _ => rfl
      · cases h
    · cases h
  · split at h
    · rename_i e
      obtain rfl := eq_of_if e
      split at h
      · split at h
        · rename_i hno
          split at h
          · rename_i e1 e2
            cases h
            exact SE.of (tE_index c.K c.units (ih _ _ e1).opd (ih _ _ e2).val (base_ok hno) (few_ok e2) hline (star_ok (er_star e2))) (fun _ z => by cases z) fun _ => rfl
          · cases h
        · cases h
      · cases h
    · split at h
      · rename_i hc
        simp only [Bool.and_eq_true, decide_eq_true_eq] at hc
        split at h
        · rename_i mo ms e1 e2
          cases h
          exact SE.of (meth_ok c ih hline e1 e2 hc.1.2 hc.2) (fun _ z => by cases z) fun _ => rfl
        · cases h
      · cases h
/-! ### comprehensions -/
theorem Ctx.blk (c : Ctx g Wx C k tb X) {scope : Scope} {own : List (Str × Nat)} (ok : BlkOk X.N X.env.scope scope own) (s : Shared) (H : Hp) (Cc : Addr) (cl : List (Str × Addr)) (fp : List Addr) : Ctx g WF C k (tb.blk scope) (X.blk s H scope (compEnvC scope cl Cc X.env) fp) where
  K := c.K
  P := c.P
  w := c.w
  sc := by
    show relS scope X.env.scope = relS scope tb.sc
    rw [c.sc]
  N := c.N
  nd := c.nd
  calm := c.calm
  room := c.room
  gu := c.gu
  takes := fun u s' ⟨a, B, sI, pins, σ, H, cls, d, _, _, _, _, _, _, _, _, w⟩ => w.elim
  st := fun x hx => by
    have hx : x ∈ ownOf scope := hx
    unfold ownOf at hx
    obtain ⟨⟨y, q⟩, hy, rfl⟩ := List.mem_map.mp hx
    obtain ⟨hy, hq⟩ := List.mem_filter.mp hy
    have hl := ok.uniq _ hy
    have hl : scope.names.lookup y = some q := hl
    cases q with
    | «local» =>
      have z : (relS scope X.env.scope).names.lookup y = some .local := lookup_relS_keep (by decide) hl
      exact ⟨.inl z, .inr z⟩
    | cell =>
      have z : (relS scope X.env.scope).names.lookup y = some .cell := lookup_relS_keep (by decide) hl
      exact ⟨.inr z, .inl (by show (scope.names.lookup y == some .cell) = true; rw [hl]; rfl)⟩
    | _ => cases hq
  bt := c.bt
  gl := c.gl
  me := c.me
  cl := c.cl
  xc := c.xc
  xm := c.xm
  kc := c.kc
theorem nms_er (c : Ctx g Wx C k tb X) : ∀ {es : List Expr} {is : List Nat}, erNms tb es = some is → PGs X es (gDs g is) ∧ PGs X es (gVs g is) ∧ (assignEach es X.env).length = is.length ∧ (assignEach es X.env).findIdx? (·.1) = none
  | [], is, h => by cases h; exact ⟨gDs_nil, gVs_nil, rfl, rfl⟩
  | e :: es, is, h => by
    unfold erNms at h
    split at h
    · rename_i e1; cases e1
    · rename_i x pos es' e1
      cases e1
      split at h
      · rename_i i is' e1 e2
        cases h
        unfold Tb.sto at e1
        split at e1
        · rename_i hs
          obtain ⟨l, f⟩ := c.st x (by simpa using hs)
          have hi : X.N[i]? = some x := by rw [c.N]; exact ixOf_get e1
          have nd : X.N.Nodup := by rw [c.N]; exact c.nd
          obtain ⟨h1, h2, h3, h4⟩ := nms_er c e2
          refine ⟨gDs_cons nd hi l f h1 rfl, gVs_cons nd hi l f h2 rfl, ?_, ?_⟩
          · show (assignEach es X.env).length + 1 = _
            rw [h3]; rfl
          · show List.findIdx? (·.1) ((false, assign (.Name x pos) X.env) :: assignEach es X.env) = none
            rw [List.findIdx?_cons, h4]
            rfl
        · cases e1
      · cases h
    · cases h
theorem tg_er {e : Expr} {t : Tg} (c : Ctx g Wx C k tb X) (h : erTg tb e = some t) : PG X e (gD g t) := by
  unfold erTg at h
  split at h
  · rename_i x pos
    cases e1 : tb.sto x with
    | none => rw [e1] at h; cases h
    | some i =>
      rw [e1] at h
      cases h
      unfold Tb.sto at e1
      split at e1
      · rename_i hs
        obtain ⟨l, f⟩ := c.st x (by simpa using hs)
        exact gD_nm (by rw [c.N]; exact c.nd) (by rw [c.N]; exact ixOf_get e1) l f
      · cases e1
  · rename_i es k pos
    cases e1 : erNms tb es with
    | none => rw [e1] at h; cases h
    | some is =>
      rw [e1] at h
      cases h
      obtain ⟨h1, _, h3, h4⟩ := nms_er c e1
      exact gD_tp c.K c.calm h1 h3 h4
  · cases h
theorem it_er {n : Nat} {tg e : Expr} {kk : ItK} {args : List E} {t : Tg} {tb' : Tb} (c : Ctx g Wx C k tb X) (ih : ErOk g Wx C X (er n tb)) (h : erIt tb (er n tb) e = some (kk, args)) (ht : erTg tb' tg = some t) (hu : kk.u = true → ∃ is, t = .tp is) : PI X tg e (tI g Wx C kk args) ∧ ∀ x, foldedSetIterable e X.env x = pure x := by
  have tup : kk.u = true → ∃ es k p, tg = .Tuple es k p := fun z => by
    obtain ⟨is, rfl⟩ := hu z
    unfold erTg at ht
    split at ht
    · cases q : tb'.sto _ with
      | none => rw [q] at ht; cases ht
      | some i => rw [q] at ht; cases ht
    · exact ⟨_, _, _, rfl⟩
    · cases ht
  have val : ∀ {m : E}, er n tb e = some m → PI X tg e (tI g Wx C .val [m]) ∧ ∀ x, foldedSetIterable e X.env x = pure x := fun {m} e1 => by
    refine ⟨tI_val c.K (ih _ _ e1).val, fun x => ?_⟩
    unfold foldedSetIterable
    cases e <;> first | rfl | (cases n <;> cases e1)
  have call : ∀ {f : Expr} {as : List Expr} {ks : List Keyword} {p : Pos} (x : Value), foldedSetIterable (.Call f as ks p) X.env x = pure x := fun _ => rfl
  unfold erIt at h
  split at h
  · rename_i x p args' pos
    split at h
    · rename_i hc
      rw [Bool.and_eq_true] at hc
      obtain rfl := eq_of_if hc.2
      obtain ⟨hg, hm⟩ := c.blt hc.1
      refine ⟨?_, call⟩
      split at h
      · rename_i a
        cases e1 : er n tb a with
        | none => rw [e1] at h; cases h
        | some m =>
          rw [e1] at h
          cases h
          exact tI_rng1 hg hm (tA_cons (ih _ _ e1).val tA_nil (star_ok (er_star e1))) (star_ok (er_star e1))
      · split at h
        · rename_i e1 e2
          cases h
          exact tI_rng2 hg hm (tA_cons (ih _ _ e1).val (tA_cons (ih _ _ e2).val tA_nil (star_ok (er_star e2))) (star_ok (er_star e1))) (by rw [star_ok (er_star e1), star_ok (er_star e2)]; rfl) (star_ok (er_star e2))
        · cases h
      · cases h
    · split at h
      · rename_i hc
        rw [Bool.and_eq_true] at hc
        obtain rfl := eq_of_if hc.2
        obtain ⟨hg, hm⟩ := c.blt hc.1
        refine ⟨?_, call⟩
        split at h
        · rename_i a
          cases e1 : er n tb a with
          | none => rw [e1] at h; cases h
          | some m =>
            rw [e1] at h
            cases h
            obtain ⟨es, k, p, rfl⟩ := tup rfl
            exact tI_enum c.K hg hm (tA_cons (ih _ _ e1).val tA_nil (star_ok (er_star e1))) (star_ok (er_star e1))
        · cases h
      · split at h
        · rename_i hc
          rw [Bool.and_eq_true] at hc
          obtain rfl := eq_of_if hc.2
          obtain ⟨hg, hm⟩ := c.blt hc.1
          refine ⟨?_, call⟩
          split at h
          · rename_i a
            cases e1 : er n tb a with
            | none => rw [e1] at h; cases h
            | some m =>
              rw [e1] at h
              cases h
              exact tI_rev c.K hg hm (ih _ _ e1).val (star_ok (er_star e1))
          · cases h
        · split at h
          · rename_i hc
            rw [Bool.and_eq_true] at hc
            obtain rfl := eq_of_if hc.2
            obtain ⟨hg, hm⟩ := c.blt hc.1
            refine ⟨?_, call⟩
            split at h
            · split at h
              · rename_i e1 e2
                cases h
                obtain ⟨es, k, p, rfl⟩ := tup rfl
                exact tI_zip c.K hg hm (tA_cons (ih _ _ e1).val (tA_cons (ih _ _ e2).val tA_nil (star_ok (er_star e2))) (star_ok (er_star e1))) (star_ok (er_star e1)) (by rw [star_ok (er_star e2)]; rfl)
              · cases h
            · cases h
          · cases e1 : er n tb (.Call (.Name x p) args' [] pos) with
            | none => rw [e1] at h; cases h
            | some m => rw [e1] at h; cases h; exact val e1
  · cases e1 : er n tb e with
    | none => rw [e1] at h; cases h
    | some m => rw [e1] at h; cases h; exact val e1
theorem u_of {kk : ItK} {t : Tg} (h : (!kk.u || isTp t) = true) : kk.u = true → ∃ is, t = .tp is := fun z => by
  rw [z] at h
  cases t with
  | nm i => cases h
  | tp is => exact ⟨is, rfl⟩
/-- the parts of a comprehension -/
theorem comp_er {n : Nat} {elt : Expr} {gs : List Comprehension} {scope : Scope} {m : E} (c : Ctx g Wx C k tb X) (ih : ∀ (Wx : WX) (X : Cx) (tb : Tb), Ctx g Wx C k tb X → ErOk g Wx C X (er n tb)) (h : erComp tb (er n tb) (er n (tb.blk scope)) elt gs scope = some m) :
    ∃ tg iter ifs t kk args mc me own, gs = [⟨tg, iter, ifs, 0⟩] ∧ m = .comp me t kk args mc (own.map (·.2)) ∧ PI X tg iter (tI g Wx C kk args) ∧ BlkOk X.N X.env.scope scope own ∧
      (∀ (s : Shared) (H : Hp) (Cc : Addr) (cl : List (Str × Addr)) (fp : List Addr), PG (X.blk s H scope (compEnvC scope cl Cc X.env) fp) tg (gD g t)) ∧
      (∀ (s : Shared) (H : Hp) (Cc : Addr) (cl : List (Str × Addr)) (fp : List Addr), PTs (X.blk s H scope (compEnvC scope cl Cc X.env) fp) ifs (tT g WF C mc)) ∧
      (∀ (s : Shared) (H : Hp) (Cc : Addr) (cl : List (Str × Addr)) (fp : List Addr), PE (X.blk s H scope (compEnvC scope cl Cc X.env) fp) elt (tE g WF C me)) ∧ (∀ x, foldedSetIterable iter X.env x = pure x) ∧ (∀ i ∈ t.ixs, i ∈ own.map (·.2)) ∧ (kk.u = true → ∃ is, t = .tp is) := by
  unfold erComp at h
  split at h
  · rename_i tg iter ifs
    split at h
    · rename_i kk args t mc me e2 e3 e4 e5
      split at h
      · rename_i hc
        cases h
        simp only [Bool.and_eq_true] at hc
        obtain ⟨⟨h1, h2⟩, h3⟩ := hc
        have ok : BlkOk X.N X.env.scope scope (ownIx tb.N (ownOf scope)) := by rw [c.N, c.sc]; exact blkOk_by h1
        have hu := u_of h3
        obtain ⟨p1, p2⟩ := it_er (tg := tg) c (ih Wx X tb c) e2 e3 hu
        refine ⟨tg, iter, ifs, t, kk, args, mc, me, ownIx tb.N (ownOf scope), rfl, rfl, p1, ok, fun s H Cc cl fp => tg_er (c.blk ok s H Cc cl fp) e3, fun s H Cc cl fp => ?_, fun s H Cc cl fp => (ih _ _ _ (c.blk ok s H Cc cl fp) _ _ e5).val, p2, fun i hi => ?_, hu⟩
        · unfold erIfs at e4
          split at e4
          · cases e4; exact tT_yes
          · exact pts_one (ih _ _ _ (c.blk ok s H Cc cl fp) _ _ e4).tst
          · cases e4
        · have := List.all_eq_true.mp h2 i hi
          simpa using this
      · cases h
    · cases h
  · cases h
/-! ### dicts that change -/
theorem din_er {n : Nat} {a : Expr} {ops : List CmpOp} {bs : List Expr} {m : E} {pos : Pos} (c : Ctx g Wx C k tb X) (ih : ErOk g Wx C X (er n tb)) (h : erDin tb (er n tb) a ops bs = some m) : SE g Wx C X (.Compare a ops bs pos) m := by
  unfold erDin at h
  split at h
  · rename_i op b
    split at h
    · rename_i hc
      simp only [Bool.and_eq_true, Bool.not_eq_true'] at hc
      split at h
      · rename_i h1 h2
        cases h
        have e := tE_din (pos := pos) (ih _ _ h1).val (ih _ _ h2).val (op_min c.ok3 c.hu) hc.2
        exact ⟨e, tO_of e (fun _ z => by cases z), tT_din (ih _ _ h1).val (ih _ _ h2).val (op_min c.ok3 c.hu) hc.2⟩
      · rename_i h1 h2
        cases h
        have e := tE_din (pos := pos) (ih _ _ h1).val (ih _ _ h2).val (op_mnin c.ok3 c.hu) hc.2
        exact ⟨e, tO_of e (fun _ z => by cases z), tT_din (ih _ _ h1).val (ih _ _ h2).val (op_mnin c.ok3 c.hu) hc.2⟩
      · cases h
    · cases h
  · cases h
theorem dsub_er {n : Nat} {a i : Expr} {m : E} {pos : Pos} (c : Ctx g Wx C k tb X) (ih : ErOk g Wx C X (er n tb)) (h : erDsub tb (er n tb) a i = some m) : SE g Wx C X (.Subscript a i pos) m := by
  unfold erDsub at h
  split at h
  · split at h
    · rename_i h1 h2
      cases h
      exact SE.of (tE_dget c.ok3 c.hu (ih _ _ h1).val (ih _ _ h2).val (plainIx_ok h2)) (fun _ z => by cases z) fun _ => rfl
    · cases h
  · split at h
    · split at h
      · rename_i h1 h2
        cases h
        exact SE.of (tE_kix c.hu (ih _ _ h1).val (ih _ _ h2).val (plainIx_ok h2)) (fun _ z => by cases z) fun _ => rfl
      · cases h
    · cases h
theorem dls_er {n : Nat} {x : Str} {args : List Expr} {m : E} {p pos : Pos} (c : Ctx g Wx C k tb X) (ih : ErOk g Wx C X (er n tb)) (h : erDls tb (er n tb) x args = some m) : SE g Wx C X (.Call (.Name x p) args [] pos) m := by
  unfold erDls at h
  split at h
  · rename_i a
    split at h
    · rename_i hc
      simp only [Bool.and_eq_true] at hc
      obtain rfl := eq_of_if hc.2
      obtain ⟨hg, hm⟩ := c.blt hc.1.2
      cases e1 : er n tb a with
      | none => rw [e1] at h; cases h
      | some ma =>
        rw [e1] at h
        cases h
        exact SE.of (tE_dkeys c.ok3 c.calm hg hm (ih _ _ e1).val (star_ok (er_star e1))) (fun _ z => by cases z) fun _ => rfl
    · cases h
  · cases h
theorem get_er2 {n : Nat} {o : Expr} {f : Str} {args : List Expr} {m : E} {apos pos : Pos} (c : Ctx g Wx C k tb X) (ih : ErOk g Wx C X (er n tb)) (hline : (apos.endLine == pos.line) = true) (h : erGet (er n tb) o f args = some m) : SE g Wx C X (.Call (.Attribute o f apos) args [] pos) m := by
  unfold erGet at h
  split at h
  · rename_i i x
    split at h
    · rename_i hc
      rw [Bool.and_eq_true] at hc
      obtain rfl := eq_of_if hc.2
      split at h
      · rename_i h1 h2 h3
        cases h
        have s1 := star_ok (es := [x]) (env := X.env) (er_star h2)
        have s2 := star_ok (es := []) (env := X.env) (er_star h3)
        refine SE.of (tE_kget c.hu (ih _ _ h1).val (ih _ _ h2).val (ih _ _ h3).val ⟨base_ok ?_, ?_, hline, ?_⟩) (fun _ z => by cases z) fun _ => rfl
        · cases o <;> first | rfl | cases hc.1
        · rw [s1, s2]; rfl
        · rw [s1, s2]; rfl
      · cases h
    · cases h
  · cases h
theorem dnew_er {ks : List (Option Expr)} {vs : List Expr} {p : Pos} (h : isDk tb (.Dict ks vs p) = true) : SE g Wx C X (.Dict ks vs p) .dnew := by
  unfold isDk at h
  split at h
  · rename_i e; cases e
  · rename_i e; cases e; exact SE.of tE_dnew (fun _ z => by cases z) fun _ => rfl
  · cases h
/-! ### every expression -/
theorem er_ok : ∀ (n : Nat) (Wx : WX) (X : Cx) (tb : Tb), Ctx g Wx C k tb X → ErOk g Wx C X (er n tb)
  | 0, _, _, _, _, _, _, h => by cases h
  | n + 1, Wx, X, tb, c, e, m, h => by
    have ih := er_ok n Wx X tb c
    unfold er at h
    split at h
    · rename_i x pos
      split at h
      · rename_i i e1
        cases h
        exact SE.var (c.var e1) fun _ => rfl
      · split at h
        · rename_i hgl
          obtain ⟨hg, hd⟩ := c.glo hgl
          cases e2 : tb.kc.lookup x with
          | none => rw [e2] at h; cases h
          | some v =>
            rw [e2] at h
            cases h
            obtain ⟨t, hm⟩ := c.kc (x, v) (kc_mem e2)
            exact SE.of (tE_con (pe_glob (v := .int v) hg hm ⟨t, rfl⟩ hd) (fun ρ S => by rw [ev]) fun w Φ => .int _) (fun _ z => by cases z) fun _ => rfl
        · cases h
    · split at h
      · cases h; exact SE.of (tE_con pe_int (fun ρ S => by rw [ev]) fun w Φ => .int _) (fun _ z => by cases z) fun _ => rfl
      · cases h; exact SE.of (tE_con pe_bl (fun ρ S => by rw [ev]) fun w Φ => .bl _) (fun _ z => by cases z) fun _ => rfl
      · cases h; exact SE.of (tE_con pe_non (fun ρ S => by rw [ev]) fun w Φ => .non) (fun _ z => by cases z) fun _ => rfl
      · cases h; exact SE.of (tE_con pe_str (fun ρ S => by rw [ev]) fun w Φ => .str _) (fun _ z => by cases z) fun _ => rfl
      · cases h
    · split at h
      · cases e1 : erSt (er n tb) _ with
        | none => rw [e1] at h; cases h
        | some ms => rw [e1] at h; cases h; exact SE.of (tE_stdT (tAS_er c.K ih e1)) (fun _ z => by cases z) fun _ => rfl
      · cases e1 : erL (er n tb) _ with
        | none => rw [e1] at h; cases h
        | some ms => rw [e1] at h; cases h; exact SE.of (tE_tup (tA_er ih e1)) (fun _ z => by cases z) fun _ => rfl
    · split at h
      · cases e1 : erSt (er n tb) _ with
        | none => rw [e1] at h; cases h
        | some ms => rw [e1] at h; cases h; exact SE.of (tE_stdL (tAS_er c.K ih e1)) (fun _ z => by cases z) fun _ => rfl
      · cases e1 : erL (er n tb) _ with
        | none => rw [e1] at h; cases h
        | some ms => rw [e1] at h; cases h; exact SE.of (tE_lst (tA_er ih e1)) (fun _ z => by cases z) fun _ => rfl
    · split at h
      · rename_i e1 e2 e3
        cases h
        exact bin_er c.K (ih _ _ e2) (ih _ _ e3) e1
      · cases h
    · split at h
      · rename_i e1
        cases h
        exact SE.of (tE_neg (ih _ _ e1).val) (fun _ z => by cases z) fun _ => rfl
      · rename_i e1
        cases h
        exact ⟨tE_not (ih _ _ e1).val, tO_of (tE_not (ih _ _ e1).val) (fun _ z => by cases z), tT_not (ih _ _ e1).tst⟩
      · cases h
    · split at h
      · obtain ⟨p1, p2⟩ := and_er ih h
        refine ⟨p1, ?_, p2.pt⟩
        rcases bool_var (fun a b i z => by cases z) h with z | ⟨e, rfl⟩
        · exact tO_of p1 z
        · exact pe_one (ih _ _ h).opd
      · obtain ⟨p1, p2⟩ := or_er ih h
        refine ⟨p1, ?_, p2.pt⟩
        rcases bool_var (fun a b i z => by cases z) h with z | ⟨e, rfl⟩
        · exact tO_of p1 z
        · exact pe_one (ih _ _ h).opd
    · split at h
      · rename_i hi
        cases h
        exact din_er c ih hi
      · split at h
        · rename_i hi
          cases h
          exact irg_er c ih hi
        · exact cmp_er c ih h
    · split at h
      · rename_i e1 e2 e3
        cases h
        exact ⟨tE_ife (ih _ _ e1).tst (ih _ _ e2).val (ih _ _ e3).val, tO_of (tE_ife (ih _ _ e1).tst (ih _ _ e2).val (ih _ _ e3).val) (fun _ z => by cases z), tT_ife (ih _ _ e1).tst (ih _ _ e2).tst (ih _ _ e3).tst⟩
      · cases h
    · split at h
      · rename_i hi
        cases h
        exact dsub_er c ih hi
      · exact sub_er c ih h
    · split at h
      · rename_i hc
        rw [Bool.and_eq_true] at hc
        cases e1 : er n tb _ with
        | none => rw [e1] at h; cases h
        | some m =>
          rw [e1] at h
          cases h
          exact SE.of (tE_fld c.K (ih _ _ e1).val (base_ok hc.2)) (fun _ z => by cases z) fun _ => rfl
      · cases h
    · split at h
      · rename_i hd
        cases h
        exact dnew_er hd
      · exact dict_er ih h
    · obtain ⟨tg, iter, ifs, t, kk, args, mc, me, own, rfl, rfl, q1, q2, q3, q4, q5, q6, q7, q8⟩ := comp_er c (er_ok n) h
      exact SE.of (tE_comp c.calm (by rw [c.N]; exact c.nd) q1 q2 q3 q4 q5 q6 q7 q8) (fun _ z => by cases z) fun _ => rfl
    · split at h
      · split at h
        · rename_i hi
          cases h
          exact dls_er c ih hi
        · exact call_er c ih h
      · exact rev_er c ih h
      · split at h
        · rename_i hl
          split at h
          · rename_i hi
            cases h
            exact get_er2 c ih hl hi
          · exact meth_er c ih hl h
        · cases h
      · cases h
    · cases h
end
end VI
set_option Elab.async false
set_option linter.all false
set_option maxRecDepth 100000
set_option maxHeartbeats 4000000
/-! VIn: from the program's text to the small language: statements. -/
namespace VI
open PySem PySem.Spec PyProof.Rows L2
def noComp : Expr → Bool
  | .ListComp .. => false
  | .SetComp .. => false
  | .DictComp .. => false
  | _ => true
def isTup : Expr → Bool
  | .Tuple .. => true
  | _ => false
/-- does name = [..] exchange the stores -/
def swB (sc : Scope) (x : Str) (pos : Pos) (e : Expr) : Bool := match e with
  | .ListComp elt gs s p => sc.names.lookup x == some .local && pos.line == (Expr.ListComp elt gs s p).pos.line && !(s.names.any fun (n, k) => n == x && (k == .local || k == .cell))
  | _ => false
/-- the names whose stores are exchanged; none: that cannot be told -/
def swNm (sc : Scope) (l : Nat) : Expr → Option Str
  | .Name id pos => if sc.names.lookup id == some .local && pos.line == l then some id else none
  | _ => none
def swRest (ts vs : List Expr) (names : List Str) : Option (Option (List Str)) :=
  if names.length != ts.length || names.eraseDups.length != names.length then some none
  else if vs.all (foldedForSure 8) then some none
  else if vs.all (constantsAlone 8) then none
  else some (some names)
def swD (sc : Scope) (ts vs : List Expr) : Option (Option (List Str)) :=
  if !(ts.length == 2 || ts.length == 3) || vs.length != ts.length then some none
  else if vs.any fun | .Starred .. => true | _ => false then some none
  else swRest ts vs (ts.filterMap (swNm sc ((ts.head?.map (·.pos.line)).getD 0)))
def nmOf : Expr → Option Str
  | .Name x _ => some x
  | _ => none
/-- an expression as a statement -/
def erX (tb : Tb) (f : Expr → Option E) (e : Expr) : Option S := match e with
  | .Constant (.str _) _ _ => some .pss
  | .Call (.Attribute (.Name x _) m apos) [a] [] pos =>
    if m == ("append" : Str) && apos.endLine == pos.line then (match tb.var x, f a with
      | some i, some ma => some (.app i ma)
      | _, _ => none)
    else if m == ("extend" : Str) && apos.endLine == pos.line then (match tb.var x, f a with
      | some i, some ma => some (.ext i ma)
      | _, _ => none)
    else (f e).map .ex
  | _ => if noComp e then (f e).map .ex else none
def erPar (tb : Tb) (f : Expr → Option E) (ts es : List Expr) : Option S :=
  match ts with
  | [.Subscript (.Name x _) a _, .Subscript (.Name y _) b _] => (match tb.var x, tb.var y, f a, f b, erL f es, swD tb.sc ts es with
    | some i, some j, some ma, some mb, some ms, some none => some (.sw i ma j mb ms)
    | _, _, _, _, _, _ => none)
  | _ => match erNms tb ts, erL f es with
    | some is, some ms => (match swD tb.sc ts es with
      | some none => if is.length ≤ 1000 then some (.par is ms) else none
      | some (some _) => if decide is.Nodup then some (.par is ms) else none
      | none => none)
    | _, _ => none
def mvOf (tb : Tb) : Expr → Option Nat
  | .Name y p => if tb.mv.contains p.line then tb.var y else none
  | _ => none
def erA (tb : Tb) (f : Expr → Option E) (t e : Expr) : Option S := match t with
  | .Name x _ => (match tb.sto x, mvOf tb e with
    | some i, some j => some (.mov i j)
    | _, _ => (match tb.sto x, f e with
      | some i, some m => some (.asg (.nm i) m)
      | _, _ => none))
  | .Subscript (.Name x _) i _ => (match (match i with
      | .Constant (.str k) _ _ => skOf k
      | _ => none) with
    | some q => if tb.sr then (match tb.var x, f e with
      | some j, some m => some (.sput j q m)
      | _, _ => none) else none
    | none => match tb.var x, f i, f e with
      | some j, some mi, some m => some (.sti j mi m)
      | _, _, _ => none)
  | .Tuple ts _ _ => (match e with
    | .Tuple es _ _ => if tb.sc.kind == .function then erPar tb f ts es else none
    | _ => (match erNms tb ts, f e with
      | some is, some m => some (.asg (.tp is) m)
      | _, _ => none))
  | _ => none
/-- d[k] = e -/
def erDput (tb : Tb) (f : Expr → Option E) (t e : Expr) : Option S := match t with
  | .Subscript o i _ => if isDk tb o then (match f o, f i, f e with
    | some mo, some mi, some m => some (.dput mo mi m)
    | _, _, _ => none) else none
  | _ => none
def erSs (f : Stmt → Option S) : List Stmt → Option (List S)
  | [] => some []
  | s :: ss => match f s, erSs f ss with
    | some m, some ms => some (m :: ms)
    | _, _ => none
def erRet (tb : Tb) (f : Expr → Option E) (e : Expr) : Option S := match e with
  | .Name x _ => (tb.var x).map fun i => .ret (.var i)
  | _ => match f e with
    | some (.var _) => none
    | some m => some (.ret m)
    | none => none
def xcOf (x : Str) : List XcE → Option (Nat × Option (Str × Bool))
  | [] => none
  | q :: r => if q.1 == x then some q.2 else xcOf x r
def xmOf (x : Str) : List XmE → Option (List Nat × List Nat)
  | [] => none
  | q :: r => if q.1 == x then some q.2 else xmOf x r
/-- raise -/
def erRse (tb : Tb) (f : Expr → Option E) (e : Expr) : S := match e with
  | .Call (.Name x _) [] [] _ => (match xcOf x tb.xc with
    | some (c, none) => if tb.glo x then .rse c none .non else .nev
    | _ => .nev)
  | .Call (.Name x _) [a] [] _ => (match xcOf x tb.xc, f a with
    | some (c, some q), some m => if tb.glo x then .rse c (some q) m else .nev
    | _, _ => .nev)
  | _ => .nev
/-- the fields that all these classes have -/
def xfOf (tb : Tb) (cs : List Nat) : List Str := (tb.xc.filterMap fun q => q.2.2.map (·.1)).filter fun f => cs.all fun c => tb.xc.any fun q => q.2.1 == c && (match q.2.2 with
  | some (f', _) => f' == f
  | none => false)
/-- try: .. except -/
def erTry (tb : Tb) (f : List Stmt → Option (List S)) (b : List Stmt) : List ExceptHandler → Option S
  | [.ExceptHandler (some (.Name x _)) none (b0 :: suite) _] => (match xmOf x tb.xm, f b with
    | some (cs, ns), some mb => if tb.glo x then (erHS none (xfOf tb cs) tb.sto (b0 :: suite)).map (.try_ mb cs ns none) else none
    | _, _ => none)
  | [.ExceptHandler (some (.Name x _)) (some n) (b0 :: suite) _] => (match xmOf x tb.xm, f b, tb.var n with
    | some (cs, ns), some mb, some i => if tb.glo x && tb.sc.names.lookup n == some .local then (erHS (some n) (xfOf tb cs) tb.sto (b0 :: suite)).map (.try_ mb cs ns (some i)) else none
    | _, _, _ => none)
  | _ => none
def erS : Nat → Tb → Stmt → Option S
  | 0, _, _ => none
  | n + 1, tb, st => match st with
    | .Expr e _ => erX tb (er n tb) e
    | .Assign ts e _ => (match ts with
      | [t] => if tb.sc.kind == .function then (match erDput tb (er n tb) t e with
        | some m => some m
        | none => erA tb (er n tb) t e) else none
      | _ => none)
    | .AugAssign t op e _ => (match t with
      | .Name x _ => (match tb.sto x, bopOf op, er n tb e with
        | some i, some o, some m => some (.aug i o m)
        | _, _, _ => none)
      | _ => none)
    | .If c a b _ => (match er n tb c, erSs (erS n tb) a, erSs (erS n tb) b with
      | some mc, some ma, some mb => some (.ite mc ma mb)
      | _, _, _ => none)
    | .While c b o _ => (match o, er n tb c, erSs (erS n tb) b with
      | [], some mc, some mb => some (.whl mc mb)
      | _, _, _ => none)
    | .For t e b o _ => (match o, erTg tb t, erIt tb (er n tb) e, erSs (erS n tb) b with
      | [], some mt, some (k, args), some mb => if !k.u || isTp mt then some (.for_ mt k args mb) else none
      | _, _, _, _ => none)
    | .Return e _ => (match e with
      | none => some .retn
      | some e => erRet tb (er n tb) e)
    | .Pass _ => some .pss
    | .Break _ => some .brk
    | .Continue _ => some .cnt
    | .Raise (some e) none _ => some (erRse tb (er n tb) e)
    | .Raise .. => some .nev
    | .Try b hs o fin _ => (match o, fin with
      | [], [] => erTry tb (erSs (erS n tb)) b hs
      | _, _ => none)
    | _ => none
section
variable {g : Gl0} {Wx : WX} {C : Cal} {X : Cx} {k : Nat} {tb : Tb}
theorem swaps_no {e : Expr} {t : Option Expr} {line : Nat} {env : Env} (h : noComp e = true) : swapsWith e t line env = pure false := by
  cases e <;> first | rfl | cases h
theorem swaps_sub {e o i : Expr} {p : Pos} {line : Nat} {env : Env} : swapsWith e (some (.Subscript o i p)) line env = pure false := by
  cases e <;> rfl
theorem sole_sub {e o i : Expr} {p : Pos} {line : Nat} {env : Env} : swapsWithSole [.Subscript o i p] e line env = pure false := by
  cases e <;> rfl
theorem sole_no {e t : Expr} {line : Nat} {env : Env} (h : noComp e = true) : swapsWithSole [t] e line env = pure false := by
  cases e <;> first | rfl | cases h
theorem sole_tp {e : Expr} {ts : List Expr} {k : _} {p : Pos} {line : Nat} {env : Env} : swapsWithSole [.Tuple ts k p] e line env = pure false := by
  cases e <;> rfl
theorem bk_ok (c : Ctx g Wx C k tb X) (h : (tb.sc.kind == .function) = true) : X.env.blockKind = .function := by
  have e : X.env.scope.kind = .function := by rw [c.sc]; exact eq_of_beq h
  unfold Env.blockKind
  rw [e]
  rfl
theorem swB_ok {n : Nat} {m : E} (c : Ctx g Wx C k tb X) (hk : (tb.sc.kind == .function) = true) {e : Expr} {x : Str} {p : Pos} {line : Nat} (h : er n tb e = some m) : swapsWith e (some (.Name x p)) line X.env = pure (swB tb.sc x p e) := by
  cases e <;> first | rfl | (cases n <;> cases h; done) | skip
  rename_i elt gs s q
  unfold swapsWith swB
  have hb := bk_ok c hk
  have e : X.env.kindOf x = tb.sc.names.lookup x := by unfold Env.kindOf; rw [c.sc]
  simp only [hb, e]
  rfl
theorem sw_ok (c : Ctx g Wx C k tb X) (hk : (tb.sc.kind == .function) = true) {ts vs : List Expr} {r : Option (List Str)} {k1 k2 : Nat} {p1 p2 : Pos} (h : swD tb.sc ts vs = some r) : swappedStores [.Tuple ts k1 p1] (.Tuple vs k2 p2) X.env = pure r := by
  have hb := bk_ok c hk
  have e : ∀ x, X.env.kindOf x = tb.sc.names.lookup x := fun x => by unfold Env.kindOf; rw [c.sc]
  unfold swD at h
  unfold swappedStores
  simp only [hb, e]
  by_cases h1 : (!(ts.length == 2 || ts.length == 3) || vs.length != ts.length) = true
  · rw [if_pos h1] at h
    cases h
    have h1' : (!(ts.length == 2 || ts.length == 3) || vs.length != ts.length || (ScopeKind.function != ScopeKind.function)) = true := by rw [h1]; rfl
    rw [if_pos h1']
  · rw [if_neg h1] at h
    have h1' : ¬ (!(ts.length == 2 || ts.length == 3) || vs.length != ts.length || (ScopeKind.function != ScopeKind.function)) = true := by
      intro z
      apply h1
      rw [Bool.or_eq_true] at z
      rcases z with z | z
      · exact z
      · cases z
    rw [if_neg h1']
    split
    · rename_i g2
      split at h
      · cases h; rfl
      · rename_i h2; exact absurd g2 h2
    · rename_i g2
      split at h
      · rename_i h2; exact absurd h2 g2
      · unfold swRest at h
        split
        · rename_i g3
          split at h
          · cases h; rfl
          · rename_i h3; exact absurd g3 h3
        · rename_i g3
          split at h
          · rename_i h3; exact absurd h3 g3
          · split
            · rename_i g4
              split at h
              · cases h; rfl
              · rename_i h4; exact absurd g4 h4
            · rename_i g4
              split at h
              · rename_i h4; exact absurd h4 g4
              · split at h
                · cases h
                · rename_i h5
                  cases h
                  rw [if_neg h5]
                  rfl
/-- what swD tells of the names -/
theorem swD_names {sc : Scope} {ts vs : List Expr} {names : List Str} (h : swD sc ts vs = some (some names)) : (ts.length = 2 ∨ ts.length = 3) ∧ vs.length = ts.length ∧ ∃ l, names.length = ts.length ∧ names = ts.filterMap (swNm sc l) := by
  unfold swD at h
  split at h
  · cases h
  · rename_i h1
    split at h
    · cases h
    · unfold swRest at h
      split at h
      · cases h
      · rename_i h3
        split at h
        · cases h
        · split at h
          · cases h
          · cases h
            rw [Bool.not_eq_true, Bool.or_eq_false_iff] at h1 h3
            refine ⟨?_, ?_, _, ?_, rfl⟩
            · have := h1.1
              simp only [Bool.not_eq_false', Bool.or_eq_true, beq_iff_eq] at this
              exact this
            · simpa using h1.2
            · simpa using h3.1
theorem filter_full {sc : Scope} {l : Nat} : ∀ {ts : List Expr}, (ts.filterMap (swNm sc l)).length = ts.length → ∀ t ∈ ts, ∃ x p, t = .Name x p ∧ sc.names.lookup x = some .local
  | [], _, _, h => by cases h
  | t :: ts, h, u, hu => by
    rw [List.filterMap_cons] at h
    cases e : swNm sc l t with
    | none =>
      rw [e] at h
      have := List.length_filterMap_le (swNm sc l) ts
      simp only [List.length_cons] at h
      omega
    | some x =>
      rw [e] at h
      rcases List.mem_cons.mp hu with rfl | hu
      · unfold swNm at e
        split at e
        · split at e
          · rename_i hc
            rw [Bool.and_eq_true] at hc
            exact ⟨_, _, rfl, by simpa using hc.1⟩
          · cases e
        · cases e
      · exact filter_full (Nat.succ.inj h) u hu
theorem sto_er (c : Ctx g Wx C k tb X) {x : Str} {i : Nat} (h : tb.sto x = some i) : X.N.Nodup ∧ X.N[i]? = some x ∧ Loc X.env.scope x ∧ (X.fn x = true ∨ X.env.scope.names.lookup x = some .local) := by
  unfold Tb.sto at h
  split at h
  · rename_i hs
    obtain ⟨l, f⟩ := c.st x (by simpa using hs)
    exact ⟨by rw [c.N]; exact c.nd, by rw [c.N]; exact ixOf_get h, l, f⟩
  · cases h
theorem nms_cons {x : Str} {p : Pos} {ts : List Expr} {is : List Nat} (h : erNms tb (.Name x p :: ts) = some is) : ∃ i r, is = i :: r ∧ tb.sto x = some i ∧ erNms tb ts = some r := by
  unfold erNms at h
  split at h
  · rename_i i r e1 e2
    cases h
    exact ⟨i, r, rfl, e1, e2⟩
  · cases h
theorem swNm_eq {sc : Scope} {l : Nat} {x y : Str} {p : Pos} (h : swNm sc l (.Name x p) = some y) : y = x := by
  have h : (if sc.names.lookup x == some .local && p.line == l then some x else none) = some y := h
  split at h
  · cases h; rfl
  · cases h
theorem bop_op {op : Operator} {o : Bop} (h : bopOf op = some o) : o.op = op := by
  cases op <;> cases h <;> rfl
theorem filter_two {sc : Scope} {l : Nat} {x y : Str} {p q : Pos} (h : ([Expr.Name x p, .Name y q].filterMap (swNm sc l)).length = 2) : [Expr.Name x p, .Name y q].filterMap (swNm sc l) = [x, y] := by
  rw [List.filterMap_cons, List.filterMap_cons, List.filterMap_nil] at h ⊢
  cases e1 : swNm sc l (.Name x p) with
  | none => rw [e1] at h; cases e2 : swNm sc l (.Name y q) <;> rw [e2] at h <;> cases h
  | some a =>
    cases e2 : swNm sc l (.Name y q) with
    | none => rw [e1, e2] at h; cases h
    | some b => rw [swNm_eq e1, swNm_eq e2]
theorem filter_three {sc : Scope} {l : Nat} {x y z : Str} {p q r : Pos} (h : ([Expr.Name x p, .Name y q, .Name z r].filterMap (swNm sc l)).length = 3) : [Expr.Name x p, .Name y q, .Name z r].filterMap (swNm sc l) = [x, y, z] := by
  rw [List.filterMap_cons, List.filterMap_cons, List.filterMap_cons, List.filterMap_nil] at h ⊢
  cases e1 : swNm sc l (.Name x p) with
  | none => rw [e1] at h; cases e2 : swNm sc l (.Name y q) <;> rw [e2] at h <;> cases e3 : swNm sc l (.Name z r) <;> rw [e3] at h <;> cases h
  | some a =>
    cases e2 : swNm sc l (.Name y q) with
    | none => rw [e1, e2] at h; cases e3 : swNm sc l (.Name z r) <;> rw [e3] at h <;> cases h
    | some b =>
      cases e3 : swNm sc l (.Name z r) with
      | none => rw [e1, e2, e3] at h; cases h
      | some d => rw [swNm_eq e1, swNm_eq e2, swNm_eq e3]
theorem parN_er {n : Nat} {ts es : List Expr} {is : List Nat} {ms : List E} {m : VI.S} {pos pt pt2 : Pos} {kt k2 : Nat} (c : Ctx g Wx C k tb X) (hk : (tb.sc.kind == .function) = true) (ih : ErOk g Wx C X (er n tb)) (h1 : erNms tb ts = some is) (h2 : erL (er n tb) es = some ms)
    (h : (match swD tb.sc ts es with
      | some none => if is.length ≤ 1000 then some (VI.S.par is ms) else none
      | some (some _) => if decide is.Nodup then some (.par is ms) else none
      | none => none) = some m) : PS X (.Assign [.Tuple ts kt pt] (.Tuple es k2 pt2) pos) (tS g Wx (ex C m)) := by
  obtain ⟨g1, g2, g3, g4⟩ := nms_er c h1
  split at h
  · rename_i e1
    split at h
    · rename_i hl
      cases h
      exact tS_parT c.K c.calm (tAV_er ih h2) g2 g3 g4 (by rw [sizeLine_eq]; omega) rfl (sw_ok c hk e1)
    · cases h
  · rename_i names e1
    split at h
    · rename_i hnd
      cases h
      have hnd : is.Nodup := of_decide_eq_true hnd
      have hw := sw_ok (k1 := kt) (k2 := k2) (p1 := pt) (p2 := pt2) c hk e1
      obtain ⟨len, lv, l, ln, en⟩ := swD_names e1
      have full := filter_full (sc := tb.sc) (l := l) (ts := ts) (by rw [← en]; exact ln)
      have loc : ∀ x, tb.sc.names.lookup x = some .local → X.env.scope.names.lookup x = some .local := fun x z => by rw [c.sc]; exact z
      rcases len with len | len
      · match ts, len with
        | [t1, t2], _ =>
          obtain ⟨x, p, rfl, lx⟩ := full t1 (by simp)
          obtain ⟨y, q, rfl, ly⟩ := full t2 (by simp)
          rw [en, filter_two (by rw [← en]; exact ln)] at hw
          obtain ⟨i, r, rfl, s1, h1⟩ := nms_cons h1
          obtain ⟨j, r, rfl, s2, h1⟩ := nms_cons h1
          cases h1
          match es, lv with
          | [e1, e2], _ =>
            obtain ⟨nd, hi, _, _⟩ := sto_er c s1
            obtain ⟨_, hj, _, _⟩ := sto_er c s2
            exact tS_par2 c.calm nd hi hj (by simp at hnd; exact hnd) (loc x lx) (loc y ly) (tAV_er ih h2) hw
      · match ts, len with
        | [t1, t2, t3], _ =>
          obtain ⟨x, p, rfl, lx⟩ := full t1 (by simp)
          obtain ⟨y, q, rfl, ly⟩ := full t2 (by simp)
          obtain ⟨z, o, rfl, lz⟩ := full t3 (by simp)
          rw [en, filter_three (by rw [← en]; exact ln)] at hw
          obtain ⟨i, r, rfl, s1, h1⟩ := nms_cons h1
          obtain ⟨j, r, rfl, s2, h1⟩ := nms_cons h1
          obtain ⟨kk, r, rfl, s3, h1⟩ := nms_cons h1
          cases h1
          match es, lv with
          | [e1, e2, e3], _ =>
            obtain ⟨nd, hi, _, _⟩ := sto_er c s1
            obtain ⟨_, hj, _, _⟩ := sto_er c s2
            obtain ⟨_, hl, _, _⟩ := sto_er c s3
            simp at hnd
            exact tS_par3 c.calm nd hi hj hl hnd.1.1 hnd.1.2 hnd.2 (loc x lx) (loc y ly) (loc z lz) (tAV_er ih h2) hw
    · cases h
  · cases h
theorem subOk {n : Nat} {o i : Expr} {p : Pos} {env : Env} {m : E} (h : er n tb i = some m) : SubOk o i p env := by
  intro v
  cases i <;> first | rfl | (cases n <;> cases h)
theorem par_er {n : Nat} {ts es : List Expr} {m : VI.S} {pos pt pt2 : Pos} {kt k2 : Nat} (c : Ctx g Wx C k tb X) (hk : (tb.sc.kind == .function) = true) (ih : ErOk g Wx C X (er n tb)) (h : erPar tb (er n tb) ts es = some m) : PS X (.Assign [.Tuple ts kt pt] (.Tuple es k2 pt2) pos) (tS g Wx (ex C m)) := by
  unfold erPar at h
  split at h
  · split at h
    · rename_i e1 e2 e3 e4 e5 e6
      cases h
      exact tS_sw c.K c.calm (c.var e1) (c.var e2) (ih _ _ e3).val (ih _ _ e4).val (subOk e3) (subOk e4) (tA_er ih e5) rfl (sw_ok c hk e6)
    · cases h
  · split at h
    · rename_i e1 e2
      exact parN_er c hk ih e1 e2 h
    · cases h
theorem x_er {n : Nat} {e : Expr} {m : VI.S} {pos : Pos} (c : Ctx g Wx C k tb X) (ih : ErOk g Wx C X (er n tb)) (h : erX tb (er n tb) e = some m) : PS X (.Expr e pos) (tS g Wx (ex C m)) := by
  have gen : ∀ {m : VI.S}, noComp e = true → (er n tb e).map VI.S.ex = some m → PS X (.Expr e pos) (tS g Wx (ex C m)) := fun {m} hn h => by
    cases e1 : er n tb e with
    | none => rw [e1] at h; cases h
    | some m => rw [e1] at h; cases h; exact tS_ex (ih _ _ e1).val (swaps_no hn)
  unfold erX at h
  split at h
  · cases h; exact tS_doc
  · split at h
    · rename_i hc
      rw [Bool.and_eq_true] at hc
      obtain rfl := eq_of_if hc.1
      split at h
      · rename_i e1 e2
        cases h
        exact tS_app c.K (c.var e1) (ih _ _ e2).val rfl (few_ok e2) hc.2 (star_ok (er_star e2))
      · cases h
    · split at h
      · rename_i hc
        rw [Bool.and_eq_true] at hc
        obtain rfl := eq_of_if hc.1
        split at h
        · rename_i e1 e2
          cases h
          exact tS_ext c.K (c.var e1) (ih _ _ e2).val rfl (few_ok e2) hc.2 (star_ok (er_star e2))
        · cases h
      · exact gen rfl h
  · split at h
    · rename_i hn; exact gen hn h
    · cases h
theorem sws_no {t e : Expr} {env : Env} (h : isTup e = false) : swappedStores [t] e env = pure none := by
  cases e <;> first | (cases t <;> rfl) | cases h
theorem sws_sub {o i e : Expr} {p : Pos} {env : Env} : swappedStores [.Subscript o i p] e env = pure none := by
  cases e <;> rfl
theorem dput_er {n : Nat} {t e : Expr} {m : VI.S} {pos : Pos} (c : Ctx g Wx C k tb X) (ih : ErOk g Wx C X (er n tb)) (h : erDput tb (er n tb) t e = some m) : PS X (.Assign [t] e pos) (tS g Wx (ex C m)) := by
  unfold erDput at h
  split at h
  · split at h
    · split at h
      · rename_i h1 h2 h3
        cases h
        exact tS_dput c.ok3 c.hu (ih _ _ h1).val (ih _ _ h2).val (ih _ _ h3).val swaps_sub
      · cases h
    · cases h
  · cases h
theorem a_er {n : Nat} {t e : Expr} {m : VI.S} {pos : Pos} (c : Ctx g Wx C k tb X) (hk : (tb.sc.kind == .function) = true) (ih : ErOk g Wx C X (er n tb)) (hcomp : ∀ elt gs scope p m, er n tb (.ListComp elt gs scope p) = some m → erComp tb (er (n - 1) tb) (er (n - 1) (tb.blk scope)) elt gs scope = some m)
    (h : erA tb (er n tb) t e = some m) : PS X (.Assign [t] e pos) (tS g Wx (ex C m)) := by
  unfold erA at h
  split at h
  · rename_i x p
    split at h
    · rename_i i j e1 e2
      cases h
      obtain ⟨nd, hi, hl, hf⟩ := sto_er c e1
      unfold mvOf at e2
      split at e2
      · split at e2
        · exact tS_mov nd hi hl (c.var e2) rfl hf
        · cases e2
      · cases e2
    split at h
    · rename_i i m e1 e2
      cases h
      obtain ⟨nd, hi, hl, hf⟩ := sto_er c e1
      cases hs : swB tb.sc x p e with
      | false =>
        refine tS_set nd hi hl (ih _ _ e2).val ?_ hf
        rw [swB_ok c hk e2, hs]
      | true =>
        cases e with
        | ListComp elt gs scope p2 =>
          obtain ⟨tg, iter, ifs, t, kk, args, mc, me, own, rfl, rfl, q1, q2, q3, q4, q5, q6, q7, q8⟩ := comp_er c (er_ok (n - 1)) (hcomp _ _ _ _ _ e2)
          have hloc : X.env.scope.names.lookup x = some .local := by
            rw [c.sc]
            unfold swB at hs
            simp only [Bool.and_eq_true] at hs
            simpa using hs.1.1
          exact tS_setLc c.calm nd hi hloc (by rw [swB_ok c hk e2, hs]) q1 q2 q3 q4 q5 q6 q7 q8
        | _ => cases hs
    · cases h
  · split at h
    · rename_i q hq
      split at h
      · split at h
        · rename_i e1 e2
          cases h
          split at hq
          · obtain rfl := skOf_eq hq
            exact tS_sput c.hu (c.var e1) (ih _ _ e2).val swaps_sub
          · cases hq
        · cases h
      · cases h
    · split at h
      rotate_left
      · cases h
      rename_i e1 e2 e3
      cases h
      exact tS_sti (c.var e1) (ih _ _ e2).val (ih _ _ e3).val sole_sub sws_sub rfl (subOk e2)
  · split at h
    · rw [if_pos hk] at h
      exact par_er c hk ih h
    · rename_i hnt
      split at h
      · rename_i is m e1 e2
        cases h
        obtain ⟨g1, _, g3, g4⟩ := nms_er c e1
        refine tS_unp (ih _ _ e2).val (gD_tp c.K c.calm g1 g3 g4) sole_tp (sws_no ?_) rfl fun i z => by cases z
        cases e <;> first | rfl | exact absurd rfl (hnt _ _ _)
      · cases h
  · cases h
/-! ### every statement -/
theorem ss_er {n : Nat} (ih : ∀ st m, erS n tb st = some m → PS X st (tS g Wx (ex C m))) : ∀ {ss : List Stmt} {ms : List VI.S}, erSs (erS n tb) ss = some ms → PSs X ss (tS g Wx (exs C ms))
  | [], ms, h => by cases h; exact tS_nil
  | s :: ss, ms, h => by
    unfold erSs at h
    split at h
    · rename_i e1 e2
      cases h
      exact tS_cons (ih _ _ e1) (ss_er ih e2)
    · cases h
theorem xcOf_mem {x : Str} {r : Nat × Option (Str × Bool)} : ∀ {l : List XcE}, xcOf x l = some r → (x, r) ∈ l
  | [], h => by cases h
  | q :: l, h => by
    unfold xcOf at h
    split at h
    · rename_i e
      cases h
      obtain rfl := eq_of_beq e
      exact List.mem_cons_self
    · exact List.mem_cons_of_mem _ (xcOf_mem h)
theorem xmOf_mem {x : Str} {r : List Nat × List Nat} : ∀ {l : List XmE}, xmOf x l = some r → (x, r) ∈ l
  | [], h => by cases h
  | q :: l, h => by
    unfold xmOf at h
    split at h
    · rename_i e
      cases h
      obtain rfl := eq_of_beq e
      exact List.mem_cons_self
    · exact List.mem_cons_of_mem _ (xmOf_mem h)
theorem rse_er {n : Nat} {e : Expr} {pos : Pos} (c : Ctx g Wx C k tb X) (ih : ErOk g Wx C X (er n tb)) : PS X (.Raise (some e) none pos) (tS g Wx (ex C (erRse tb (er n tb) e))) := by
  have hr : X.A.depth + 3 < recursionLimit := by have := c.room.dp; omega
  unfold erRse
  split
  · split
    · rename_i e1
      split
      · rename_i hg
        obtain ⟨g1, g2⟩ := c.glo hg
        exact exc_raise0 (c.xc _ (xcOf_mem e1)) c.calm c.takes hr g1 g2
      · exact tS_nev
    · exact tS_nev
  · rename_i x1 q1 a q2
    split
    · rename_i q m e1 e2
      split
      · rename_i hg
        obtain ⟨g1, g2⟩ := c.glo hg
        obtain ⟨f, tp⟩ := q
        have hl : erL (er n tb) [a] = some [m] := by
          unfold erL
          rw [e2]
          rfl
        exact exc_raise1 c.K (c.xc _ (xcOf_mem e1)) c.calm c.takes hr g1 g2 (tA_er ih hl) (star_ok (er_star e2))
      · exact tS_nev
    · exact tS_nev
  · exact tS_nev
theorem Ctx.tr (c : Ctx g Wx C k tb X) {W : WX} {pn : List (Addr × Obj)} {xe : Value → Shared → Prop} (tk : Takes (X.tr pn xe) W) : Ctx g W C k tb (X.tr pn xe) :=
  ⟨c.K, c.P, c.w, c.sc, c.N, c.nd, c.calm, c.room, c.gu, tk, c.st, c.bt, c.gl, c.me, c.cl, c.xc, c.xm, c.kc⟩
theorem xf_ok (c : Ctx g Wx C k tb X) {cs : List Nat} : ∀ n ∈ cs, ∀ f ∈ xfOf tb cs, XfC X.K (g.cls n) ∧ PySem.W.findIn X.K (.ref (g.cls n)) f = some none := by
  intro n hn f hf
  unfold xfOf at hf
  have h2 := (List.mem_filter.mp hf).2
  obtain ⟨q, hq, h3⟩ := List.any_eq_true.mp (List.all_eq_true.mp h2 n hn)
  rw [Bool.and_eq_true] at h3
  have e1 : q.2.1 = n := eq_of_beq h3.1
  have h4 := h3.2
  have kk := c.xc q hq
  split at h4
  · rename_i f' tp e2
    obtain rfl := eq_of_beq h4
    rw [e1] at kk
    exact kk.fld _ _ e2
  · cases h4
theorem try_er {b : List Stmt} {hs : List ExceptHandler} {m : VI.S} {pos : Pos} (c : Ctx g Wx C k tb X) (hst : X.stack = X.env :: X.outer) (hf : X.env.frame = some X.env.locals) {f : List Stmt → Option (List VI.S)}
    (ih : ∀ ms, f b = some ms → ∀ (W : WX) (pn : List (Addr × Obj)) (xe : Value → Shared → Prop), Takes (X.tr pn xe) W → PassesOwn (model X.prog X.w) X.A X.env xe → PSs (X.tr pn xe) b (tS g W (exs C ms))) (h : erTry tb f b hs = some m) : PS X (.Try b hs [] [] pos) (tS g Wx (ex C m)) := by
  have hsto : ∀ x i, tb.sto x = some i → X.N[i]? = some x ∧ Loc X.env.scope x ∧ (X.fn x = true ∨ X.env.scope.names.lookup x = some .local) := fun x i h => (sto_er c h).2
  have nd : X.N.Nodup := by rw [c.N]; exact c.nd
  unfold erTry at h
  split at h
  · split at h
    · rename_i cs ns mb e1 e2
      split at h
      · rename_i hg
        obtain ⟨g1, g2⟩ := c.glo hg
        obtain ⟨cc, e3, tx⟩ := c.xm _ (xmOf_mem e1)
        cases e4 : erHS none (xfOf tb cs) tb.sto _ with
        | none => rw [e4] at h; cases h
        | some hh =>
          rw [e4] at h
          cases h
          exact tS_try0 c.K hst hf ⟨g1, g2, .inl e3⟩ c.takes tx (ih mb e2) fun a oe cls d pn hz hd => pss_hs ⟨xf_ok c, by intro y z; cases z⟩ nd hsto hz hd e4
      · cases h
    · cases h
  · rename_i x1 p1 nn b0 suite p2
    split at h
    · rename_i cs ns mb i e1 e2 e5
      split at h
      · rename_i hg
        rw [Bool.and_eq_true] at hg
        obtain ⟨g1, g2⟩ := c.glo hg.1
        obtain ⟨cc, e3, tx⟩ := c.xm _ (xmOf_mem e1)
        have hl : X.env.kindOf nn = some .local := by
          show X.env.scope.names.lookup nn = _
          rw [c.sc]
          simpa using hg.2
        unfold Tb.var at e5
        split at e5
        · rename_i hc
          simp only [Bool.and_eq_true, Bool.not_eq_true'] at hc
          have hN : X.N[i]? = some nn := by rw [c.N]; exact ixOf_get e5
          cases e4 : erHS (some nn) (xfOf tb cs) tb.sto _ with
          | none => rw [e4] at h; cases h
          | some hh =>
            rw [e4] at h
            cases h
            exact tS_try1 c.K hst hf nd hN hl ⟨g1, g2, .inl e3⟩ c.takes tx (ih mb e2) fun a oe cls d pn hz hd => pss_hs ⟨xf_ok c, fun y z => by cases z; exact ⟨i, rfl, hN, .inl hl, hc.1.2, hc.2⟩⟩ nd hsto hz hd e4
        · cases e5
      · cases h
    · cases h
  · cases h
theorem erS_ok : ∀ (n : Nat) {Wx : WX} {X : Cx} {tb : Tb} (c : Ctx g Wx C k tb X) (hp : PassesOwn (model X.prog X.w) X.A X.env X.xe) (hst : X.stack = X.env :: X.outer) (hf : X.env.frame = some X.env.locals) (st : Stmt) (m : VI.S), erS n tb st = some m → PS X st (tS g Wx (ex C m))
  | 0, _, _, _, _, _, _, _, _, _, h => by cases h
  | n + 1, Wx, X, tb, c, hp, hst, hf, st, m, h => by
    have ih := er_ok n Wx X tb c
    have ihs := erS_ok n c hp hst hf
    unfold erS at h
    split at h
    · exact x_er c ih h
    · split at h
      · split at h
        · rename_i hk
          split at h
          · rename_i hi
            cases h
            exact dput_er c ih hi
          refine a_er c hk ih (fun elt gs scope p m h => ?_) h
          cases n with
          | zero => cases h
          | succ n => exact h
        · cases h
      · cases h
    · split at h
      · split at h
        · rename_i e1 e2 e3
          cases h
          obtain ⟨nd, hi, hl, hf⟩ := sto_er c e1
          exact tS_aug nd hi hl (ih _ _ e3).val (bop_op e2) hf
        · cases h
      · cases h
    · split at h
      · rename_i e1 e2 e3
        cases h
        exact tS_if (ih _ _ e1).tst (ss_er ihs e2) (ss_er ihs e3)
      · cases h
    · split at h
      · rename_i e1 e2
        cases h
        exact tS_while hp (ih _ _ e1).tst (ss_er ihs e2)
      · cases h
    · split at h
      · rename_i e1 e2 e3
        split at h
        · rename_i hu
          cases h
          have hu := u_of hu
          obtain ⟨p1, p2⟩ := it_er c ih e2 e1 hu
          exact tS_for hp c.calm p1 (tg_er c e1) (ss_er ihs e3) p2 hu
        · cases h
      · cases h
    · split at h
      · cases h; exact tS_retN
      · unfold erRet at h
        split at h
        · rename_i x p
          cases e1 : tb.var x with
          | none => rw [e1] at h; cases h
          | some i => rw [e1] at h; cases h; exact tS_retV (c.var e1)
        · split at h
          · cases h
          · rename_i hn e1
            cases h
            exact tS_ret (ih _ _ e1).val fun i z => hn i z
          · cases h
    · cases h; exact tS_pass
    · cases h; exact tS_break
    · cases h; exact tS_cont
    · cases h; exact rse_er c ih
    · cases h; exact tS_nev
    · split at h
      · exact try_er c hst hf (fun ms e W pn xe tk pa => ss_er (erS_ok n (c.tr tk) pa hst hf) e) h
      · cases h
    · cases h
end
end VI
set_option Elab.async false
set_option linter.all false
set_option maxRecDepth 100000
set_option maxHeartbeats 4000000
/-! VIo: all defs of a law keep their promises; a law's end. -/
namespace VI
open PySem PySem.Spec PyProof.Rows L2
/-- the names of a def's own that may be stored -/
def stOf (scope : Scope) : List Str := (ownOf scope).filter fun x => match scope.names.lookup x with
  | some .local => true
  | some .cell => true
  | _ => false
/-- what is known of names, in all defs: the defs, the built-in names, the classes, their methods' and fields' names -/
structure Tbs where
  gl : List (Str × Nat × Nat)
  bt : List Str
  cl : List (Str × Nat × Nat)
  me : List Str
  fl : List Str
  br : List Str
  xc : List XcE
  xm : List XmE
  kc : List (Str × Int)
  mv : List Nat
  dk : List (Nat × Nat)
/-- a def's table -/
def tbOf (T : Tbs) (sr : Bool) (N : List Str) (scope : Scope) : Tb := ⟨N, scope, stOf scope, T.gl, T.bt, sr, T.cl, T.me, T.fl, T.br, T.xc, T.xm, T.kc, T.mv, T.dk⟩
/-- what is known of the exceptions -/
structure ExcsOk (P : Program) (K : PySem.W.Frag) (mg : Str → Option Value) (g : Gl0) (T : Tbs) : Prop where
  xc : ∀ q ∈ T.xc, ExcK P K mg g q.1 q.2.1 q.2.2
  xm : ∀ q ∈ T.xm, ∃ cc, mg q.1 = some cc ∧ TakesX g cc q.2.1 q.2.2
  kc : ∀ q ∈ T.kc, ∃ t, mg q.1 = some (.int q.2 t)
/-- a def of the text that is turned into the small language; fn: its number -/
structure DefOk (Γ : Tab) (T : Tbs) (x qual : Str) (params : Arguments) (text : List Stmt) (scope : Scope) (fn : Fn) (np : Nat) : Prop where
  ex : ∃ (sr : Bool) (N ps : List Str) (body : List S), FnScope N ps scope ∧ ps.length ≤ N.length ∧ ps.length = np ∧ Γ fn = some (.fd ⟨ps.length, N.length, body⟩) ∧ erSs (erS 40 (tbOf T sr N scope)) text = some body ∧
    ∀ (kV doc pm : Value) (an : Option Addr) (cdv ct : Value) (us : List Value), us.length = ps.length → bindArgs (PySem.W.fnOf x qual params text scope .none kV doc pm an cdv ct) ⟨us, []⟩ = pure (ps.zip us)
/-- an __init__ -/
def erPre (tb : Tb) : List Stmt → Option (List Pre)
  | [] => some []
  | .Assign [.Name y _] e _ :: r => match tb.sto y, er 40 tb e, erPre tb r with
    | some (i + 1), some m, some ms => if noComp e then some (.let_ (i + 1) m :: ms) else none
    | _, _, _ => none
  | .If c b [] _ :: r => match er 40 tb c, erPre tb r with
    | some m, some ms => (match erSs (erS 40 tb) b with
      | some [.rse cl f e] => some (.rs m [.rse cl f e] :: ms)
      | _ => some (.chk m :: ms))
    | _, _ => none
  | _ => none
def erFlds (tb : Tb) : List Stmt → Option (List Str × List E)
  | [] => some ([], [])
  | .Assign [.Attribute (.Name y _) f _] e _ :: r => match tb.var y, er 40 tb e, erFlds tb r with
    | some 0, some m, some (fs, ms) => some (f :: fs, m :: ms)
    | _, _, _ => none
  | _ => none
structure InitOk (Γ : Tab) (T : Tbs) (x qual : Str) (params : Arguments) (text : List Stmt) (scope : Scope) (c np : Nat) : Prop where
  ex : ∃ (k0 : Nat) (N ps : List Str) (md : Md), FnScope N ps scope ∧ ps.length ≤ N.length ∧ ps.length = np + 1 ∧ md.np = np ∧ md.ns = N.length ∧ md.c = c ∧ Γ (.mk c) = some (.md md) ∧
    erPre (tbOf T false N scope) (text.take k0) = some md.pre ∧ erFlds (tbOf T false N scope) (text.drop k0) = some (md.fns, md.fes) ∧ md.fns.Nodup ∧ md.fns.length ≤ 1000 ∧
    ∀ (kV doc pm : Value) (an : Option Addr) (cdv ct : Value) (us : List Value), us.length = ps.length → bindArgs (PySem.W.fnOf x qual params text scope .none kV doc pm an cdv ct) ⟨us, []⟩ = pure (ps.zip us)
/-- what g tells of the frame, the text, the world -/
structure G3 (K : PySem.W.Frag) (P : Program) (w : World) (g : Gl0) : Prop where
  K : K = g.K
  P : P = g.prog
  w : w = g.wd
section
variable {P : Program} {w : World} {K : PySem.W.Frag} {mg : Str → Option Value} {base : Heap} {g : Gl0} {Γ : Tab} {T : Tbs} {fuel : Nat}
/-- the promises of all at a level -/
structure Lev (P : Program) (w : World) (K : PySem.W.Frag) (mg : Str → Option Value) (base : Heap) (g : Gl0) (T : Tbs) (C : Cal) (k : Nat) : Prop where
  gl : ∀ x n np, fnOf? x T.gl = some (n, np) → ∃ f fd ps, mg x = some (.ref f) ∧ PySem.W.keepIn K (.ref f) = true ∧ Binds K fd ps [] ∧ ps.length = np ∧ FnG P w K mg base k f fd ps (spD g (C.call (.f n)) np)
  me : ∀ (c : Nat) (m : Str) (ds : List D) (S : So), C.call (.m c m) ds S ≠ .no → ∃ f fd ps, Meth K (g.cls c) m f ∧ Binds K fd ps [] ∧ ps.length = ds.length ∧ FnG P w K mg base k f fd ps (spD g (C.call (.m c m)) ds.length)
  cl : ∀ x c np, fnOf? x T.cl = some (c, np) → ∃ f fd ps, mg x = some (.ref (g.cls c)) ∧ Mk K (g.cls c) f ∧ Binds K fd ps [] ∧ FnG P w K mg base k f fd ps (spI g c (C.call (.mk c)) np)
theorem ctx_def {sr : Bool} {N : List Str} {qual : Str} {scope : Scope} {f : Addr} {cdv : Value} {A : Around} {outer : List Env} {s : Shared} {H : Hp} {E : XK} {C : Cal} {k : Nat} (hK : G3 K P w g) (nd : N.Nodup) (room : RoomX k (A.deeper (envOfC qual scope s.heap.objs.size f cdv))) (gu : A.guards = some []) (hbt : ∀ x ∈ T.bt, mg x = none) (hx : ExcsOk P K mg g T)
    (hl : Lev P w K mg base g T C k) :
    Ctx g (fun c d _ H => E c d H) C k (tbOf T sr N scope) (cxOf (L2.CX P w) P w K mg base N qual scope f cdv A outer s H E) where
  K := hK.K
  P := hK.P
  w := hK.w
  sc := rfl
  N := rfl
  nd := nd
  calm := rfl
  room := room
  gu := gu
  takes := takes_of rfl rfl rfl rfl
  st := fun x hx => by
    have hx : x ∈ stOf scope := hx
    unfold stOf at hx
    have hq := (List.mem_filter.mp hx).2
    refine ⟨?_, .inl rfl⟩
    show scope.names.lookup x = some .local ∨ scope.names.lookup x = some .cell
    split at hq
    · exact .inl (by assumption)
    · exact .inr (by assumption)
    · cases hq
  bt := hbt
  gl := hl.gl
  me := hl.me
  cl := hl.cl
  xc := hx.xc
  xm := hx.xm
  kc := hx.kc
/-- a def keeps its promise one level up -/
theorem def_up {x qual : Str} {params : Arguments} {text : List Stmt} {scope : Scope} {fn : Fn} {np k : Nat} {f : Addr} {fd : FuncData} (hK : G3 K P w g) (hbt : ∀ x ∈ T.bt, mg x = none) (hx : ExcsOk P K mg g T) (F : L2.FunD K x qual params text scope [] [] f fd) (ok : DefOk Γ T x qual params text scope fn np)
    (hl : Lev P w K mg base g T ⟨callD Γ fuel k, fuel⟩ k) :
    ∃ ps, Binds K fd ps [] ∧ ps.length = np ∧ FnG P w K mg base (k + 1) f fd ps (spD g (callD Γ fuel (k + 1) fn) np) := by
  obtain ⟨sr, N, ps, body, sc, hle, hnp, hΓ, her, hb⟩ := ok.ex
  refine ⟨ps, F.bindsN hb, hnp, ?_⟩
  subst hnp
  refine fnG_def F sc hle hΓ fun cdv A outer s H E room gu => ?_
  have c := ctx_def (sr := sr) (P := P) (w := w) (base := base) (cdv := cdv) (f := f) (outer := outer) (H := H) (E := E) (C := ⟨callD Γ fuel k, fuel⟩) (T := T) hK sc.nd room gu hbt hx hl
  exact ss_er (erS_ok 40 c (passes_of rfl) rfl rfl) her
theorem pre_er {Wx : WX} {C : Cal} {X : Cx} {k : Nat} {tb : Tb} (c : Ctx g Wx C k tb X) (hp : PassesOwn (model X.prog X.w) X.A X.env X.xe) (hst : X.stack = X.env :: X.outer) (hf : X.env.frame = some X.env.locals) : ∀ {ss : List Stmt} {ms : List Pre}, erPre tb ss = some ms → Pres g Wx C X ss ms := by
  intro ss
  induction ss with
  | nil => intro ms h; cases h; exact .nil
  | cons st r ih =>
    intro ms h
    unfold erPre at h
    split at h
    · rename_i h0; cases h0
    · rename_i y p e pos r' h0
      cases h0
      split at h
      · rename_i i m ms' e1 e2 e3
        split at h
        · rename_i hn
          cases h
          unfold Tb.sto at e1
          split at e1
          · rename_i hs
            obtain ⟨l1, l2⟩ := c.st y (by simpa using hs)
            exact .let_ (by rw [c.N]; exact ixOf_get e1) l1 l2 (swaps_no hn) (er_ok 40 _ _ _ c _ _ e2).val (ih e3)
          · cases e1
        · cases h
      · cases h
    · rename_i cnd rs pos r' h0
      cases h0
      split at h
      · rename_i m ms' e1 e2
        split at h
        · rename_i cl f e e3
          cases h
          exact .rs (er_ok 40 _ _ _ c _ _ e1).tst (ss_er (erS_ok 40 c hp hst hf) e3) (ih e2)
        · cases h
          exact .chk (er_ok 40 _ _ _ c _ _ e1).tst (ih e2)
      · cases h
    · cases h
theorem flds_er {Wx : WX} {C : Cal} {X : Cx} {k : Nat} {tb : Tb} (c : Ctx g Wx C k tb X) : ∀ {ss : List Stmt} {q : List Str × List E}, erFlds tb ss = some q → Flds g Wx C X ss q.1 q.2 := by
  intro ss
  induction ss with
  | nil => intro q h; cases h; exact .nil
  | cons st r ih =>
    intro q h
    unfold erFlds at h
    split at h
    · rename_i h0; cases h0
    · rename_i y p f p2 e pos r' h0
      cases h0
      split at h
      · rename_i m fs ms e1 e2 e3
        cases h
        exact .cons (c.var e1) (er_ok 40 _ _ _ c _ _ e2).val (ih e3)
      · cases h
    · cases h
theorem init_up {x qual : Str} {params : Arguments} {text : List Stmt} {scope : Scope} {c np k : Nat} {f : Addr} {fd : FuncData} (hK : G3 K P w g) (hbt : ∀ x ∈ T.bt, mg x = none) (hx : ExcsOk P K mg g T) (F : L2.FunD K x qual params text scope [] [] f fd) (ok : InitOk Γ T x qual params text scope c np)
    (hc : ∀ md, Γ (.mk c) = some (.md md) → ClsK g c md.fns) (hl : Lev P w K mg base g T ⟨callD Γ fuel k, fuel⟩ k) :
    ∃ ps, Binds K fd ps [] ∧ FnG P w K mg base (k + 1) f fd ps (spI g c (callD Γ fuel (k + 1) (.mk c)) np) := by
  obtain ⟨k0, N, ps, md, sc, hle, hnp, h1, h2, h3, hΓ, her, hfl, hnd, hlen, hb⟩ := ok.ex
  refine ⟨ps, F.bindsN hb, ?_⟩
  have hcc := hc md hΓ
  subst h1 h3
  have F' : L2.FunD K x qual params (text.take k0 ++ text.drop k0) scope [] [] f fd := by rw [List.take_append_drop]; exact F
  refine fnG_init F' sc hK.K hnp hle h2 hΓ hcc hnd hlen (fun cdv A outer s H E room gu => ?_) fun cdv A outer s H E room gu => ?_
  · exact pre_er (ctx_def (sr := false) (P := P) (w := w) (base := base) (cdv := cdv) (f := f) (outer := outer) (H := H) (E := E) (C := ⟨callD Γ fuel k, fuel⟩) (T := T) hK sc.nd room gu hbt hx hl) (passes_of rfl) rfl rfl her
  · exact flds_er (ctx_def (sr := false) (P := P) (w := w) (base := base) (cdv := cdv) (f := f) (outer := outer) (H := H) (E := E) (C := ⟨callD Γ fuel k, fuel⟩) (T := T) hK sc.nd room gu hbt hx hl) hfl
/-- what a law knows of a def: it is turned, or it is proved by hand -/
def Known (P : Program) (w : World) (K : PySem.W.Frag) (mg : Str → Option Value) (base : Heap) (g : Gl0) (Γ : Tab) (T : Tbs) (x : Str) (n np : Nat) : Prop :=
  ∃ f fd, mg x = some (.ref f) ∧ PySem.W.keepIn K (.ref f) = true ∧ ((∃ qual params text scope, L2.FunD K x qual params text scope [] [] f fd ∧ DefOk Γ T x qual params text scope (.f n) np) ∨
    ∃ p ps, Γ (.f n) = some (.prim p) ∧ ps.length = np ∧ Binds K fd ps [] ∧ ∀ k, FnG P w K mg base (k + 1) f fd ps (spD g p np))
def KnownC (K : PySem.W.Frag) (mg : Str → Option Value) (g : Gl0) (Γ : Tab) (T : Tbs) (x : Str) (c np : Nat) : Prop :=
  ∃ f fd y qual params text scope, mg x = some (.ref (g.cls c)) ∧ Mk K (g.cls c) f ∧ L2.FunD K y qual params text scope [] [] f fd ∧ InitOk Γ T y qual params text scope c np ∧ ∀ md, Γ (.mk c) = some (.md md) → ClsK g c md.fns
def KnownM (K : PySem.W.Frag) (g : Gl0) (Γ : Tab) (T : Tbs) (c : Nat) (m : Str) : Prop :=
  ∃ f fd y qual params text scope np, Meth K (g.cls c) m f ∧ L2.FunD K y qual params text scope [] [] f fd ∧ DefOk Γ T y qual params text scope (.m c m) np
structure Knows (P : Program) (w : World) (K : PySem.W.Frag) (mg : Str → Option Value) (base : Heap) (g : Gl0) (Γ : Tab) (T : Tbs) : Prop where
  ex : ExcsOk P K mg g T
  bt : ∀ x ∈ T.bt, mg x = none
  gl : ∀ x n np, fnOf? x T.gl = some (n, np) → Known P w K mg base g Γ T x n np
  cl : ∀ x c np, fnOf? x T.cl = some (c, np) → KnownC K mg g Γ T x c np
  me : ∀ c m e, Γ (.m c m) = some e → KnownM K g Γ T c m
theorem all_fn (hK : G3 K P w g) (hd : Knows P w K mg base g Γ T) : ∀ k : Nat, Lev P w K mg base g T ⟨callD Γ fuel k, fuel⟩ k
  | 0 => by
    refine ⟨fun x n np h => ?_, fun c m ds S h => absurd rfl h, fun x c np h => ?_⟩
    · obtain ⟨f, fd, h1, h2, h3⟩ := hd.gl x n np h
      have bd : ∃ ps, Binds K fd ps [] ∧ ps.length = np := by
        rcases h3 with ⟨qual, params, text, scope, F, ok⟩ | ⟨p, ps, _, h4, h5, _⟩
        · obtain ⟨sr, N, ps, body, sc, hle, hnp, hΓ, her, hb⟩ := ok.ex
          exact ⟨ps, F.bindsN hb, hnp⟩
        · exact ⟨ps, h5, h4⟩
      obtain ⟨ps, h4, h5⟩ := bd
      have no : ∀ {vs H Q E}, spD g (callD Γ fuel 0 (.f n)) np vs H Q E → False := fun ⟨_, Φ, W, ds, S, _, _, _, p⟩ => by
        rw [callD] at p
        exact p
      exact ⟨f, fd, ps, h1, h2, h4, h5, ⟨fun vs H Q E z => (no z).elim, fun A outer s H args us vs Q E _ _ _ _ _ z => (no z).elim⟩⟩
    · obtain ⟨f, fd, y, qual, params, text, scope, h1, h2, F, ok, h3⟩ := hd.cl x c np h
      obtain ⟨k0, N, ps, md, sc, hle, hnp, _, _, _, hΓ, her, hfl, hnd, hlen, hb⟩ := ok.ex
      have no : ∀ {vs H Q E}, spI g c (callD Γ fuel 0 (.mk c)) np vs H Q E → False := fun ⟨_, _, _, _, _, _, Φ, W, ds, S, _, _, _, _, _, p⟩ => by
        rw [callD] at p
        exact p
      exact ⟨f, fd, ps, h1, h2, F.bindsN hb, ⟨fun vs H Q E z => (no z).elim, fun A outer s H args us vs Q E _ _ _ _ _ z => (no z).elim⟩⟩
  | k + 1 => by
    have ih := all_fn hK hd k
    refine ⟨fun x n np h => ?_, fun c m ds S h => ?_, fun x c np h => ?_⟩
    · obtain ⟨f, fd, h1, h2, h3⟩ := hd.gl x n np h
      rcases h3 with ⟨qual, params, text, scope, F, ok⟩ | ⟨p, ps, h4, h5, h6, h7⟩
      · obtain ⟨ps, p1, p2, p3⟩ := def_up (fuel := fuel) hK hd.bt hd.ex F ok ih
        exact ⟨f, fd, ps, h1, h2, p1, p2, p3⟩
      · refine ⟨f, fd, ps, h1, h2, h6, h5, ?_⟩
        have e : callD Γ fuel (k + 1) (.f n) = p := by
          funext ds S
          rw [callD, h4]
        show FnG P w K mg base (k + 1) f fd ps (spD g (callD Γ fuel (k + 1) (.f n)) np)
        rw [e]
        exact h7 k
    · have h : callD Γ fuel (k + 1) (.m c m) ds S ≠ .no := h
      cases e : Γ (.m c m) with
      | none => rw [callD, e] at h; exact absurd rfl h
      | some ent =>
        obtain ⟨f, fd, y, qual, params, text, scope, np, h1, F, ok⟩ := hd.me c m ent e
        obtain ⟨ps, p1, p2, p3⟩ := def_up (fuel := fuel) hK hd.bt hd.ex F ok ih
        obtain ⟨sr, N, ps', body, sc, hle, hnp, hΓ, her, hb⟩ := ok.ex
        have hl : ds.length = np := by
          rw [callD, hΓ] at h
          by_cases q : ds.length = ps'.length
          · rw [q, hnp]
          · exact absurd (if_neg q) h
        subst hl
        exact ⟨f, fd, ps, h1, p1, p2, p3⟩
    · obtain ⟨f, fd, y, qual, params, text, scope, h1, h2, F, ok, h3⟩ := hd.cl x c np h
      obtain ⟨ps, p1, p2⟩ := init_up (fuel := fuel) hK hd.bt hd.ex F ok h3 ih
      exact ⟨f, fd, ps, h1, h2, p1, p2⟩
end
/-! ### the law's end -/
/-- what the law's call is to give -/
def LawEnd (s₁ : Shared) : Result → Shared → Prop := fun r s' => r = .ok (.ret (.bool true)) ∧ OldK s₁.heap s'.heap ∧ s'.os = s₁.os ∧ AllBare s'.gens
theorem law_callG {P : Program} {w : World} {K : PySem.W.Frag} {mg mb : Str → Option Value} {k : Nat} {fa a : Addr} {g : Gl0} {r : List D → So → Rc} {s₁ : Shared} {vs : List Value} {ns : List Int}
    (inK : K.In s₁.heap) (nsG : s₁.heap.Ns mainGlobals mg) (nsB : s₁.heap.Ns builtinsNs mb) (boot : ∀ x : Str, x ≠ "__name__" → mb x = bootBuiltins x) (lim0 : s₁.heap.NoLimit) (gen0 : s₁.gens = #[])
    (at_ : s₁.heap.get? a = some { cls := .type "list", data := .seq vs.toArray }) (nums : IntsAre vs ns) (len : ns.length ≤ sizeLine) (room : Room k callerA) (hK : K = g.K)
    (F : ∀ base : Heap, K.In base → base.Ns mainGlobals mg → ∃ fd ps, Binds K fd ps [] ∧ ps.length = 1 ∧ FnG P w K mg base k fa fd ps (spD g r 1))
    (law : ∃ S', r [.scr ns] none = .ok (.fz (.bl true)) S') : codeAny (model P w) callerA (.call (.ref fa) ⟨[.ref a], []⟩) (LawEnd s₁) s₁ := by
  have rv := vals_ints nums
  obtain ⟨S', hr⟩ := law
  -- H: nothing, or the script alone
  have main : ∀ H : Hp, Only H → SqL K H a (ns.map V.int) → HOk P w H s₁.heap → (∀ b, H b ≠ none → b = a) → (H a ≠ none → K.lookup a = none) → codeAny (model P w) callerA (.call (.ref fa) ⟨[.ref a], []⟩) (LawEnd s₁) s₁ := by
    intro H only sq ok hA hk
    have bare : ∀ {b : Addr} {o : Obj}, s₁.heap.get? b = some o → H b = none → (hidT s₁.heap H).get? b = some o := fun z n => hidT_get z n
    have notA : ∀ {b : Addr} {o : Obj} {es : Array DictEntry} {ep : Nat}, s₁.heap.get? b = some o → o.data = .dict es ep → H b = none := by
      intro b o es ep z d
      cases q : H b with
      | none => rfl
      | some u =>
        obtain rfl : b = a := hA b (by rw [q]; exact fun z => nomatch z)
        rw [at_] at z
        cases z
        cases d
    have space : ∀ {b : Addr} {m : Str → Option Value}, s₁.heap.Ns b m → (hidT s₁.heap H).Ns b m := fun ⟨o, es, ep, z, d, rest⟩ => ⟨o, es, ep, bare z (notA z d), d, rest⟩
    have frag : K.In (hidT s₁.heap H) := fun b o z => bare (inK b o z) (by
      cases q : H b with
      | none => rfl
      | some u =>
        obtain rfl : b = a := hA b (by rw [q]; exact fun z => nomatch z)
        rw [hk (by rw [q]; exact fun z => nomatch z)] at z
        cases z)
    have md : Mod K mg (hidT s₁.heap H) := ⟨frag, space nsG, ⟨mb, space nsB, boot⟩, lim0.elim fun mc z => ⟨mc, space z.1, z.2⟩⟩
    have e0 : Env0 P w K mg (hidT s₁.heap H) callerA [] s₁ H := ⟨rfl, md, fun _ _ z => of_hidT z, Nat.le_of_eq (hidT_size _ _), trivial, fun _ z => (nomatch z), ok, .of_eq gen0⟩
    have want : spD g r 1 [.ref a] H (fun v _ => v = .bl true) (fun _ _ _ => False) := by
      refine ⟨rfl, H, ⟨none, []⟩, [.scr ns], none, Same.refl _, ⟨trivial, rfl, List.nodup_nil, fun i a m h => by simp at h⟩, .cons (.scr (by rw [← hK]; exact sq)) .nil, ?_⟩
      rw [hr]
      intro b Φ' H' W' _ _ _ q
      have q : Rp g W'.w Φ' b (.bl true) := q
      cases q
      rfl
    obtain ⟨fd, ps, bd, one, FF⟩ := F _ frag (space nsG)
    have bb := bd s₁ [.ref a] inK (by rw [one]; rfl)
    rw [List.append_nil] at bb
    refine codeAny_mono (FF.run callerA [] s₁ H ⟨[.ref a], []⟩ [.ref a] [.ref a] _ _ room rfl e0 bb (.cons rfl .nil) want) fun out s' h => ?_
    cases out with
    | error e =>
      obtain ⟨_, _, _, _, _, _, _, _, _, _, _, _, no⟩ := h
      exact no.elim
    | ok fl =>
      cases fl with
      | ret u =>
        obtain ⟨v, H', os, gens, un, ok', ru, q⟩ := h
        obtain rfl : v = .bl true := q
        obtain rfl : u = Value.bool true := ru
        refine ⟨rfl, OldK.of_keep fun b o z => ?_, os, gens⟩
        cases q : H b with
        | none => exact un.keep b o z q (fun y => nomatch y) (fun y => nomatch y)
        | some u =>
          rcases only b with y | ⟨ob, xs, y⟩
          · rw [q] at y; cases y
          · have i1 := (ok b _ y).1
            have i2 := (ok' b _ (un.frzs b ob _ y)).1
            rw [z] at i1
            cases i1
            exact i2
      | next => exact False.elim h
      | brk => exact False.elim h
      | cont => exact False.elim h
  cases hk : K.lookup a with
  | some o =>
    have z := inK a o hk
    rw [at_] at z
    cases z
    exact main (fun _ => none) (fun _ => .inl rfl) (.inr ⟨_, vs.toArray, _, hk, rfl, rfl, rfl, by rw [List.size_toArray, nums.length]; exact len, by simpa using rv⟩) (fun _ _ z => nomatch z) (fun _ z => absurd rfl z) fun z => absurd rfl z
  | none =>
    have one : ∀ b, (upd (fun _ => none) a (.frz { cls := .type "list", data := .seq vs.toArray } (.lst (ns.map V.int)))) b ≠ none → b = a := fun b z => by
      by_cases hb : b = a
      · exact hb
      · exact absurd (upd_ne hb) z
    refine main (upd (fun _ => none) a (.frz { cls := .type "list", data := .seq vs.toArray } (.lst (ns.map V.int)))) (fun b => ?_) (.inl (.inr ⟨_, upd_same⟩)) (fun b u z => ?_) one fun _ => hk
    · by_cases hb : b = a
      · subst hb; exact .inr ⟨_, _, upd_same⟩
      · exact .inl (upd_ne hb)
    · obtain rfl := one b (by rw [z]; exact fun z => nomatch z)
      rw [upd_same] at z
      cases z
      exact ⟨at_, by rw [List.length_map]; exact len, vs, _, rv, at_⟩
/-- the goal that the head leaves -/
theorem walk_ofG {l : PySem.W.OpenLaw} {n k : Nat} {q : Program} {loose : List Str} {XP : (Str → Option Value) → Heap → Prop} {YP : World → Heap → Prop} {d : DefRec} {r : List D → So → Rc} (most : l.most = some n) (small : n ≤ sizeLine) (nod : d.params.defaults = []) (room : Room k callerA)
    (F : ∀ (w : World) (mg : Str → Option Value) (fa : Addr) (h : Heap), YP w h → h.Ns mainGlobals mg → mg d.name = some (.ref fa) →
      ∃ (K : PySem.W.Frag) (g : Gl0), K.In h ∧ K = g.K ∧ ∀ base : Heap, K.In base → base.Ns mainGlobals mg → ∃ fd ps, Binds K fd ps [] ∧ ps.length = 1 ∧ FnG l.prog w K mg base k fa fd ps (spD g r 1))
    (law : ∀ ns : List Int, ns.length ≤ n → ∃ S', r [.scr ns] none = .ok (.fz (.bl true)) S') : PySem.W.WalkO q loose XP YP l.row.toRowW d [] (fun f vs => PySem.call f vs) := by
  refine Att.attach_call most nod fun w s₀ s₁ mg mb fa o pm cd doc a vs ns G Y _ _ _ inG obj nums len gen0 => ?_
  obtain ⟨K, g, inK, hK, FF⟩ := F w mg fa _ Y G.T.g inG
  exact law_callG inK G.T.g G.T.b G.T.builtins G.T.nolimit gen0 obj nums (Nat.le_trans len small) room hK FF (law ns len)
end VI
set_option Elab.async false
set_option linter.all false
set_option maxRecDepth 100000
set_option maxHeartbeats 4000000
/-! VIC: the head's facts, those of exception classes too. -/
namespace VI
open PySem PySem.Spec PyProof.Rows L2 PySem.W
/-- an exception class: its name, number, field, __init__ -/
structure ExD where
  x : Str
  c : Nat
  fld : Option (Str × Bool)
  qual : Str
  params : Arguments
  ps : List Str
  body : List Stmt
  scope : Scope
/-- what its __init__ looks like -/
def stoB (tp : Bool) (z : Str) : Expr → Bool
  | .Name y _ => !tp && y == z
  | .Call (.Name t _) [.Name y _] [] _ => tp && (t == ("tuple" : Str) && y == z)
  | _ => false
theorem stoB_ok {tp : Bool} {z : Str} {ve : Expr} (h : stoB tp z ve = true) : StoV tp z ve := by
  unfold stoB at h
  split at h
  · rw [Bool.and_eq_true, Bool.not_eq_true'] at h
    obtain ⟨rfl, h2⟩ := h
    obtain rfl := eq_of_beq h2
    exact ⟨_, rfl⟩
  · rw [Bool.and_eq_true, Bool.and_eq_true] at h
    obtain ⟨rfl, h2, h3⟩ := h
    obtain rfl := eq_of_beq h2
    obtain rfl := eq_of_beq h3
    exact ⟨_, _, _, rfl⟩
  · cases h
def supB : Stmt → Bool
  | .Expr (.Call (.Attribute (.Call (.Name s _) [] [] _) i p2) [.Constant (.str _) _ _] [] p4) _ => s == ("super" : Str) && (i == ("__init__" : Str) && p2.endLine == p4.line)
  | _ => false
theorem supB_ok {st : Stmt} (h : supB st = true) : ∃ m j p0 p1 p2 p3 p4 p5, st = supSt m j p0 p1 p2 p3 p4 p5 ∧ (p2.endLine == p4.line) = true := by
  unfold supB at h
  split at h
  · rw [Bool.and_eq_true, Bool.and_eq_true] at h
    obtain ⟨h1, h2, h3⟩ := h
    obtain rfl := eq_of_beq h1
    obtain rfl := eq_of_beq h2
    exact ⟨_, _, _, _, _, _, _, _, rfl, h3⟩
  · cases h
def shpB (fld : Option (Str × Bool)) (ps : List Str) (body : List Stmt) : Bool := match fld, ps, body with
  | none, [_], [st] => supB st
  | some (f, tp), [y, z], [st, .Assign [.Attribute (.Name y' _) f' _] ve _] => supB st && (y' == y && (f' == f && (stoB tp z ve && (!(y == ("__debug__" : Str)) && !(z == ("__debug__" : Str))))))
  | _, _, _ => false
def scpB (tp : Bool) (ps : List Str) (sc : Scope) : Bool :=
  decide (sc.kind = .function) && !sc.isCoroutine && !sc.isGenerator && sc.names.all (fun y => !decide (y.2 = .cell)) && ps.all (fun x => decide (sc.names.lookup x = some .local)) && decide ps.Nodup && decide (sc.names.lookup ("super" : Str) = some .globalImplicit) && decide (sc.names.lookup ("__class__" : Str) = some .free) &&
    (!tp || decide (sc.names.lookup ("tuple" : Str) = some .globalImplicit))
def ExD.tp (d : ExD) : Bool := match d.fld with
  | some (_, tp) => tp
  | none => false
/-- what the text tells -/
structure ExS (P : Program) (d : ExD) : Prop where
  shp : shpB d.fld d.ps d.body = true
  scp : scpB d.tp d.ps d.scope = true
  top : (P.main.scope.names.lookup ("super" : Str)).isSome = false
  ar : ((d.params.posonlyargs ++ d.params.args).head?.map (·.arg)) = d.ps.head?
  bind : ∀ (kV doc pm : Value) (an : Option Addr) (cdv ct : Value) (cc : Addr) (us : List Value), us.length = d.ps.length → bindArgs (ksFn "__init__" d.qual d.params d.body d.scope .none kV doc pm an cdv ct cc) ⟨us, []⟩ = pure (d.ps.zip us)
abbrev ExW : Type := Option (Str × Str × Arguments × FuncBody × Scope × Addr × List Str × Addr)
def iAd (K : PySem.W.Frag) (d : ExD) : Addr := He.ma K (He.ga K d.x) "__init__"
def exW (K : PySem.W.Frag) (d : ExD) : ExW := match K.lookup (iAd K d) with
  | some ⟨_, _, .func fd, _⟩ => some (fd.name, fd.qualname, fd.params, fd.body, fd.scope, fd.globals, fd.closure.map (·.1), fd.builtins)
  | _ => none
def ExD.val (d : ExD) : ExW := some ("__init__", d.qual, d.params, .stmts d.body, d.scope, mainGlobals, ["__class__"], builtinsNs)
def clsB (K : PySem.W.Frag) (C : Addr) : Bool := match K.lookup C with
  | some ⟨.type t, _, .cls cd, sl⟩ => (match cd.mro, sl.toList with
    | .ref C' :: bm, [_, _, _, _, some (.builtin n), _] => t == "type" && (C' == C && (n == "ValueError.__new__" && (!cd.hasDel && (cd.hasDict && PySem.HandSPX.refsVE bm))))
    | _, _ => false)
  | _ => false
theorem clsB_ok {K : PySem.W.Frag} {C : Addr} (h : clsB K C = true) : ∃ nm q N bs bm sn sub ab col dd k0 k1 k2 k3 k5, K.lookup C = some (excClassObj nm q C N bs bm true sn sub ab col dd k0 k1 k2 k3 k5 "ValueError.__new__") ∧ PySem.HandSPX.refsVE bm = true := by
  unfold clsB at h
  split at h
  · rename_i t dd cd sl ho
    split at h
    · rename_i C' bm k0 k1 k2 k3 n k5 hm hs
      simp only [Bool.and_eq_true, beq_iff_eq, Bool.not_eq_true'] at h
      obtain ⟨rfl, rfl, rfl, hdel, hhd, hr⟩ := h
      obtain ⟨nm, bs, mro, ns, qn, hd, sn, sub, ab, col, del⟩ := cd
      dsimp only at hm hdel hhd
      subst hm hdel hhd
      have hsl : sl = #[k0, k1, k2, k3, some (.builtin "ValueError.__new__"), k5] := by
        obtain ⟨l⟩ := sl
        simp only at hs
        rw [hs]
      subst hsl
      exact ⟨nm, qn, ns, bs, bm, sn, sub, ab, col, dd, k0, k1, k2, k3, k5, ho, hr⟩
    · cases h
  · cases h
def fnB (P : Program) (K : PySem.W.Frag) (C fI : Addr) (qual : Str) : Bool := match K.lookup fI with
  | some ⟨_, _, .func fd, _⟩ => (match fd.code, fd.closure, fd.defaults with
    | .ref cda, [(_, cc)], .none => codeIn K (.ref cda) qual && ((match K.lookup cda with
      | some ⟨_, _, .fields vs, _⟩ => (match (vs[2]? : Option Value) with
        | some (Value.str file _) => (P.main.file : Str) == file
        | _ => false)
      | _ => false) && (match K.lookup cc with
      | some ⟨_, _, .cell (some (.ref C')), _⟩ => C' == C
      | _ => false))
    | _, _, _ => false)
  | _ => false
def exB (P : Program) (K : PySem.W.Frag) (d : ExD) : Bool :=
  He.eqO (nsIn K mainGlobals d.x) (some (some (.ref (He.ga K d.x)))) && (clsB K (He.ga K d.x) && (He.eqO (findIn K (.ref (He.ga K d.x)) "__setattr__") (some (some (.builtin "object.__setattr__"))) && (decide (subIn K (.ref (He.ga K d.x)) (.type "BaseException") = some true) &&
    (decide (typeIn K (.ref (He.ga K d.x)) = some (.type "type")) && (keepIn K (.ref (He.ga K d.x)) && (He.eqO (findIn K (.ref (He.ga K d.x)) "__init__") (some (some (.ref (iAd K d)))) && (decide (typeIn K (.ref (iAd K d)) = some (.type "function")) && (fnB P K (He.ga K d.x) (iAd K d) d.qual &&
    (He.eqO (nsIn K mainGlobals "super") (some none) && (He.eqO (nsIn K cStatics "thirdparty.any") (some none) && (decide (mroIn K (He.ga K d.x) (.ref (He.ga K d.x)) = some true) && (decide (subIn K (.ref (He.ga K d.x)) (.type "ValueError") = some true) && (He.eqO (ks_superIn K (He.ga K d.x) (He.ga K d.x) "__init__") (some (some (.builtin "ValueError.__init__"))) &&
    (match d.fld with
    | none => true
    | some (f, _) => xfB K (He.ga K d.x) && (He.eqO (findIn K (.ref (He.ga K d.x)) f) (some none) && He.eqO (nsIn K mainGlobals "tuple") (some none))))))))))))))))
theorem fnB_ok {P : Program} {K : PySem.W.Frag} {d : ExD} {C : Addr} (e : exW K d = d.val) (h : fnB P K C (iAd K d) d.qual = true) : ∃ oc od osl kV doc pm an cda ct cc, K.lookup (iAd K d) = some ⟨oc, od, .func (ksFn "__init__" d.qual d.params d.body d.scope .none kV doc pm an (.ref cda) ct cc), osl⟩ ∧ codeIn K (.ref cda) d.qual = true ∧
    (∃ ccl cdd vs ccs file tf, K.lookup cda = some ⟨ccl, cdd, .fields vs, ccs⟩ ∧ vs[2]? = some (.str file tf) ∧ ((P.main.file : Str) == file) = true) ∧ ∃ cl cld csl, K.lookup cc = some ⟨cl, cld, .cell (some (.ref C)), csl⟩ := by
  unfold exW at e
  unfold fnB at h
  cases q : K.lookup (iAd K d) with
  | none => rw [q] at h; cases h
  | some o =>
    obtain ⟨oc, od, dt, osl⟩ := o
    rw [q] at h e
    cases dt with
    | func fd =>
      obtain ⟨n1, n2, n3, n4, n5, n6, n7, n8, n9, n10, n11, n12, n13, n14, n15⟩ := fd
      have e2 : (some (n1, n2, n3, n4, n5, n6, n7.map (·.1), n15) : ExW) = some (("__init__" : Str), d.qual, d.params, FuncBody.stmts d.body, d.scope, mainGlobals, [("__class__" : Str)], builtinsNs) := e
      simp only [Option.some.injEq, Prod.mk.injEq] at e2
      obtain ⟨h1, h2, h3, h4, h5, h6, h7, h8⟩ := e2
      subst h1 h2 h3 h4 h5 h6 h8
      dsimp only at h
      split at h
      · rename_i cda nm cc
        have h7 : nm = ("__class__" : Str) := by simpa using h7
        subst h7
        rw [Bool.and_eq_true, Bool.and_eq_true] at h
        obtain ⟨k1, k2, k3⟩ := h
        refine ⟨oc, od, osl, _, _, _, _, cda, _, cc, rfl, k1, ?_, ?_⟩
        · split at k2
          · rename_i ho
            split at k2
            · rename_i hv
              exact ⟨_, _, _, _, _, _, ho, hv, k2⟩
            · cases k2
          · cases k2
        · split at k3
          · rename_i ho
            obtain rfl := eq_of_beq k3
            exact ⟨_, _, _, ho⟩
          · cases k3
      · cases h
    | _ => cases h
/-- an exception class is known -/
theorem excK_of {P : Program} {K : PySem.W.Frag} {h : Heap} {mg : Str → Option Value} {g : Gl0} {d : ExD} (X : K.In h) (G : h.Ns mainGlobals mg) (hg : g.cls d.c = He.ga K d.x) (S : ExS P d) (e : exW K d = d.val) (b : exB P K d = true) : ExcK P K mg g d.x d.c d.fld := by
  unfold exB at b
  simp only [Bool.and_eq_true] at b
  obtain ⟨b1, b2, b3, b4, b5, b6, b7, b8, b9, b10, b11, b12, b13, b14, b15⟩ := b
  have T : OexC K (g.cls d.c) := by
    rw [hg]
    exact ⟨clsB_ok b2, He.eqO_ok b3, of_decide_eq_true b4, of_decide_eq_true b5, b6⟩
  obtain ⟨oc, od, osl, kV, doc, pm, an, cda, ct, cc, lk, hcd, hcode, hcell⟩ := fnB_ok e b9
  have s := S.scp
  unfold scpB at s
  simp only [Bool.and_eq_true, decide_eq_true_eq, Bool.not_eq_true', List.all_eq_true, decide_eq_false_iff_not, Bool.or_eq_true] at s
  obtain ⟨⟨⟨⟨⟨⟨⟨⟨s1, s2⟩, s3⟩, s4⟩, s5⟩, s6⟩, s7⟩, s8⟩, s9⟩ := s
  have har : d.ps ≠ [] → ∃ ar, (d.params.posonlyargs ++ d.params.args).head? = some ar ∧ d.ps.head? = some ar.arg := fun hne => by
    have ha := S.ar
    cases e1 : (d.params.posonlyargs ++ d.params.args).head? with
    | none =>
      rw [e1] at ha
      cases e2 : d.ps with
      | nil => exact absurd e2 hne
      | cons y r => rw [e2] at ha; cases ha
    | some ar => rw [e1] at ha; exact ⟨ar, rfl, ha.symm⟩
  have mkF : d.ps ≠ [] → SupF P K (g.cls d.c) (iAd K d) d.ps (ksFn "__init__" d.qual d.params d.body d.scope .none kV doc pm an (.ref cda) ct cc) d.body d.scope cda cc := fun hne => {
    lk := ⟨oc, od, osl, lk⟩
    fd := ⟨_, _, _, _, _, _, _, _, _, rfl, hcd, har hne, S.bind _ _ _ _ _ _ _⟩
    code := hcode
    cell := by rw [hg]; exact hcell
    kind := s1
    co := s2
    gen := s3
    noc := s4
    par := s5
    nd := s6
    sup := s7
    cls := s8
    top := S.top
    glo := He.eqO_ok b10
    opq := He.eqO_ok b11
    mro := by rw [hg]; exact of_decide_eq_true b12
    isB := by rw [hg]; exact of_decide_eq_true b13
    along := by rw [hg]; exact He.eqO_ok b14 }
  have shp := S.shp
  refine ⟨?_, T, ⟨iAd K d, ksFn "__init__" d.qual d.params d.body d.scope .none kV doc pm an (.ref cda) ct cc, d.scope, cda, cc, by rw [hg]; exact He.eqO_ok b7, of_decide_eq_true b8, ?_⟩, fun f tp ef => ?_⟩
  · rw [hg]
    exact mg_of X G (He.eqO_ok b1)
  · cases ef : d.fld with
    | none =>
      rw [ef] at shp
      unfold shpB at shp
      split at shp
      · rename_i y st e1 e2 e3
        obtain ⟨m, j, p0, p1, p2, p3, p4, p5, est, hl⟩ := supB_ok shp
        have F := mkF (by rw [e2]; exact fun z => nomatch z)
        rw [e2, e3, est] at F
        exact ⟨y, m, j, p0, p1, p2, p3, p4, p5, by rw [e3, est]; exact F, hl⟩
      · rename_i e1 _ _; cases e1
      · cases shp
    | some q =>
      obtain ⟨f, tp⟩ := q
      rw [ef] at shp
      unfold shpB at shp
      split at shp
      · rename_i e1 _ _; cases e1
      · rename_i f1 tp1 y z st y' q0 f' q1 ve q2 e1 e2 e3
        cases e1
        simp only [Bool.and_eq_true, Bool.not_eq_true'] at shp
        obtain ⟨h1, h2, h3, h4, h5, h6⟩ := shp
        obtain rfl := eq_of_beq h2
        obtain rfl := eq_of_beq h3
        obtain ⟨m, j, p0, p1, p2, p3, p4, p5, est, hl⟩ := supB_ok h1
        have F := mkF (by rw [e2]; exact fun z => nomatch z)
        rw [e2, e3, est] at F
        rw [ef] at b15
        refine ⟨_, z, m, j, p0, p1, p2, p3, p4, p5, q0, q1, q2, ve, by rw [e3, est]; exact F, hl, stoB_ok h4, fun ht => ?_, h5, h6⟩
        have b15 : (xfB K (He.ga K d.x) && (He.eqO (findIn K (.ref (He.ga K d.x)) f') (some none) && He.eqO (nsIn K mainGlobals "tuple") (some none))) = true := b15
        simp only [Bool.and_eq_true] at b15
        refine ⟨?_, He.eqO_ok b15.2.2⟩
        rcases s9 with s9 | s9
        · unfold ExD.tp at s9
          rw [ef] at s9
          rw [ht] at s9
          cases s9
        · exact s9
      · cases shp
  · rw [ef] at b15
    have b15 : (xfB K (He.ga K d.x) && (He.eqO (findIn K (.ref (He.ga K d.x)) f) (some none) && He.eqO (nsIn K mainGlobals "tuple") (some none))) = true := b15
    simp only [Bool.and_eq_true] at b15
    rw [hg]
    exact ⟨xfB_ok b15.1, He.eqO_ok b15.2.1⟩
/-! ### clauses -/
/-- a clause's class, the numbers and names of the classes that it takes, that it lets through -/
def xmB (K : PySem.W.Frag) (nm : Nat → Str) (q : XmE) : Bool := He.eqO (nsIn K mainGlobals q.1) (some (some (.ref (He.ga K q.1)))) && (q.2.1.all (fun c => decide (exmOne K (.ref (He.ga K (nm c))) (.ref (He.ga K q.1)) = some true)) && q.2.2.all fun c => decide (exmOne K (.ref (He.ga K (nm c))) (.ref (He.ga K q.1)) = some false))
theorem xm_of {P0 : Program} {w0 : World} {K : PySem.W.Frag} {h : Heap} {mg : Str → Option Value} {nm : Nat → Str} {q : XmE} (X : K.In h) (G : h.Ns mainGlobals mg) (b : xmB K nm q = true) : ∃ cc, mg q.1 = some cc ∧ TakesX ⟨K, fun c => He.ga K (nm c), P0, w0⟩ cc q.2.1 q.2.2 := by
  unfold xmB at b
  simp only [Bool.and_eq_true, List.all_eq_true, decide_eq_true_eq] at b
  exact ⟨_, mg_of X G (He.eqO_ok b.1), ⟨b.2.1, b.2.2⟩⟩
/-! ### the Hook -/
def frE (n : Nat) (g : Addr → Option Obj) : PySem.W.Frag := He.frG g (cStatics :: He.asD g n)
/-- the classes of the text: what isinstance asks of them -/
def tyB (K : PySem.W.Frag) (C : Addr) : Bool := He.eqO (findIn K (.ref C) "__class__") (some (some (.builtin "object.__class__"))) && (He.eqO (specialIn K (.builtin "object.__class__") "__get__") (some (some (.builtin "getset_descriptor.__get__"))) && (decide (takesIn K (.builtin "object.__class__") = some true) && (decide (mroIn K C (.type "object") = some true) &&
  ([.int, .bool, .str, .list, .tuple, .dict] : List Ty).all fun t => decide (kitOne K (.ref C) (.type t.nm) = some false))))
theorem tyB_ok {K : PySem.W.Frag} {C : Addr} (h : tyB K C = true) : TyC K C := by
  unfold tyB at h
  simp only [Bool.and_eq_true, decide_eq_true_eq, List.all_eq_true] at h
  obtain ⟨h1, h2, h3, h4, h5⟩ := h
  refine ⟨He.eqO_ok h1, He.eqO_ok h2, h3, h4, fun t => h5 t ?_⟩
  cases t <;> simp
def faTy (K : PySem.W.Frag) : He.Fa → Bool
  | .cls x => tyB K (He.ga K x)
  | _ => true
abbrev AlE : Type := He.AlD × List ExW × Bool
def obsE (P : Program) (fa : List He.Fa) (fn : List He.DefD) (xs : List ExD) (nm : Nat → Str) (xm : List XmE) (K : PySem.W.Frag) : AlE := (He.obsD fa fn K, xs.map (exW K), (xs.all (exB P K) && xm.all (xmB K nm)) && fa.all (faTy K))
def valE (fn : List He.DefD) (xs : List ExD) : AlE := (He.valD fn, xs.map ExD.val, true)
structure SaysE (P : Program) (fa : List He.Fa) (fn : List He.DefD) (xs : List ExD) (nm : Nat → Str) (xm : List XmE) (K : PySem.W.Frag) : Prop where
  d : He.SaysD fa fn K
  w : xs.map (exW K) = xs.map ExD.val
  b0 : ((xs.all (exB P K) && xm.all (xmB K nm)) && fa.all (faTy K)) = true
def hookE (P : Program) (n : Nat) (fa : List He.Fa) (fn : List He.DefD) (xs : List ExD) (nm : Nat → Str) (xm : List XmE) : PySem.W.Hook where
  α := AlE
  obs := fun s => obsE P fa fn xs nm xm (frE n s.heap.get?)
  val := fun _ => valE fn xs
  says := fun _ h => ∃ K : PySem.W.Frag, K.In h ∧ SaysE P fa fn xs nm xm K
  of := fun _ _ e => ⟨_, He.frG_in, ⟨congrArg (fun z : AlE => z.1) e, congrArg (fun z : AlE => z.2.1) e, congrArg (fun z : AlE => z.2.2) e⟩⟩
  keeps := fun _ _ _ ⟨K, hK, c⟩ k => ⟨K, PySem.W.Frag.In.keeps hK k, c⟩
theorem obsE_eq {P : Program} {n : Nat} {fa : List He.Fa} {fn : List He.DefD} {xs : List ExD} {nm : Nat → Str} {xm : List XmE} {g : Addr → Option Obj} {s : Shared} (h : ∀ a, g a = s.heap.get? a) : obsE P fa fn xs nm xm (frE n g) = (hookE P n fa fn xs nm xm).obs s := by
  have e : g = s.heap.get? := funext h
  rw [e] <;> rfl
theorem SaysE.b {P : Program} {fa : List He.Fa} {fn : List He.DefD} {xs : List ExD} {nm : Nat → Str} {xm : List XmE} {K : PySem.W.Frag} (c : SaysE P fa fn xs nm xm K) : (xs.all (exB P K) && xm.all (xmB K nm)) = true := (Bool.and_eq_true_iff.mp c.b0).1
theorem SaysE.ty {P : Program} {fa : List He.Fa} {fn : List He.DefD} {xs : List ExD} {nm : Nat → Str} {xm : List XmE} {K : PySem.W.Frag} (c : SaysE P fa fn xs nm xm K) {x : Str} (h : He.Fa.cls x ∈ fa) : TyC K (He.ga K x) := tyB_ok (List.all_eq_true.mp (Bool.and_eq_true_iff.mp c.b0).2 _ h)
theorem SaysE.exc {P : Program} {fa : List He.Fa} {fn : List He.DefD} {xs : List ExD} {nm : Nat → Str} {xm : List XmE} {K : PySem.W.Frag} (c : SaysE P fa fn xs nm xm K) {d : ExD} (h : d ∈ xs) : exW K d = d.val ∧ exB P K d = true := by
  obtain ⟨i, hi, e⟩ := List.mem_iff_getElem.mp h
  have e2 : (xs.map (exW K))[i]? = (xs.map ExD.val)[i]? := by rw [c.w]
  rw [List.getElem?_map, List.getElem?_map, List.getElem?_eq_getElem hi, e] at e2
  have b := c.b
  rw [Bool.and_eq_true, List.all_eq_true] at b
  exact ⟨Option.some.inj e2, b.1 d h⟩
theorem SaysE.xm {P : Program} {fa : List He.Fa} {fn : List He.DefD} {xs : List ExD} {nm : Nat → Str} {xm : List XmE} {K : PySem.W.Frag} (c : SaysE P fa fn xs nm xm K) {q : XmE} (h : q ∈ xm) : xmB K nm q = true := by
  have b := c.b
  rw [Bool.and_eq_true, List.all_eq_true, List.all_eq_true] at b
  exact b.2 q h
/-- all that a law's tables say of exceptions -/
theorem excs_ok {P P0 : Program} {w0 : World} {fa : List He.Fa} {fn : List He.DefD} {xs : List ExD} {nm : Nat → Str} {K : PySem.W.Frag} {h : Heap} {mg : Str → Option Value} {T : Tbs} (X : K.In h) (G : h.Ns mainGlobals mg) (c : SaysE P fa fn xs nm T.xm K) (hx : T.xc = xs.map fun d => (d.x, d.c, d.fld)) (hn : ∀ d ∈ xs, nm d.c = d.x) (hs : ∀ d ∈ xs, ExS P d)  (hk : ∀ q ∈ T.kc, ∃ t, mg q.1 = some (.int q.2 t)) :
    ExcsOk P K mg ⟨K, fun c => He.ga K (nm c), P0, w0⟩ T := by
  refine ⟨fun q hq => ?_, fun q hq => xm_of X G (c.xm hq), hk⟩
  rw [hx] at hq
  obtain ⟨d, hd, rfl⟩ := List.mem_map.mp hq
  obtain ⟨e, b⟩ := c.exc hd
  exact excK_of X G (congrArg (He.ga K) (hn d hd)) (hs d hd) e b
end VI
set_option Elab.async false
set_option linter.all false
set_option maxRecDepth 100000
set_option maxHeartbeats 4000000
/-! VIq: the evaluator in use: comprehensions, loops, the draws. -/
namespace VI
open PySem L2
theorem back_same {ρ ρ' : Rho} {own : List Nat} (h : wipeR ρ' own = wipeR ρ own) : backR ρ ρ' own = ρ := by
  have hl : ρ.length = ρ'.length := by rw [← wipeR_len own ρ, ← wipeR_len own ρ', h]
  refine List.ext_getElem? fun j => ?_
  by_cases hj : j ∈ own
  · rw [backR_in ρ own ρ' hl hj]
  · rw [backR_out ρ own ρ' hj, ← wipeR_out own ρ' hj, h, wipeR_out own ρ hj]
/-- turns that change nothing but the comprehension's own names -/
theorem cmpl_pure {tn : D → Rho → So → Rs (Option D)} {own : List Nat} {f : D → Option D} {ρ : Rho} {S : So} : ∀ (items acc : List D) (ρ' : Rho), (∀ x ∈ items, ∃ ρx, tn x (wipeR ρ own) S = .ok (f x) ρx S ∧ wipeR ρx own = wipeR ρ own) → wipeR ρ' own = wipeR ρ own → acc.length + items.length ≤ lim →
    ∃ ρe, cmpl tn own items acc ρ' S = .ok (acc ++ items.filterMap f) ρe S ∧ wipeR ρe own = wipeR ρ own
  | [], acc, ρ', _, hw, _ => ⟨ρ', by rw [cmpl, List.filterMap_nil, List.append_nil], hw⟩
  | x :: xs, acc, ρ', ht, hw, hl => by
    obtain ⟨ρx, e, hx⟩ := ht x List.mem_cons_self
    rw [List.length_cons] at hl
    rw [cmpl, hw, e, List.filterMap_cons]
    cases f x with
    | none => exact cmpl_pure xs acc ρx (fun y hy => ht y (List.mem_cons_of_mem _ hy)) hx (by omega)
    | some d =>
      obtain ⟨ρe, e2, h2⟩ := cmpl_pure xs (acc ++ [d]) ρx (fun y hy => ht y (List.mem_cons_of_mem _ hy)) hx (by rw [List.length_append, List.length_singleton]; omega)
      refine ⟨ρe, ?_, h2⟩
      show (if acc.length < lim then cmpl tn own xs (acc ++ [d]) ρx S else .no) = _
      rw [if_pos (by omega), e2, List.append_assoc]
      rfl
theorem ev_comp {C : Cal} {me mc : E} {t : Tg} {k : ItK} {args : List E} {own : List Nat} {ρ ρ1 : Rho} {S : So} {ds items : List D} {f : D → Option D} (h1 : evs C args ρ S = .ok ds ρ1 S) (h2 : itD k ds = some items) (hl : items.length ≤ lim)
    (ht : ∀ x ∈ items, ∃ ρx, trn C t mc me x (wipeR ρ1 own) S = .ok (f x) ρx S ∧ wipeR ρx own = wipeR ρ1 own) : ev C (.comp me t k args mc own) ρ S = .ok (.ow (items.filterMap f)) ρ1 S := by
  obtain ⟨ρe, e, he⟩ := cmpl_pure items [] ρ1 ht rfl (by simpa using hl)
  rw [ev, h1]
  show (lift (itD k ds) ρ1 S).bind _ = _
  rw [h2]
  show (cmpl (trn C t mc me) own items [] ρ1 S).bind _ = _
  rw [e]
  show Rs.ok (Vl.ow ([] ++ items.filterMap f)) (backR ρ1 ρe own) S = _
  rw [back_same he]
  rfl
theorem Rs.bind_ok {α β : Type} (a : α) (ρ : Rho) (S : So) (f : α → Rho → So → Rs β) : (Rs.ok a ρ S).bind f = f a ρ S := rfl
theorem Rs.st_ok {α : Type} (a : α) (ρ : Rho) (S : So) (f : α → Rho → So → Rst) : (Rs.ok a ρ S).st f = f a ρ S := rfl
theorem Rst.then_nx (ρ : Rho) (S : So) (f : Rho → So → Rst) : (Rst.nx ρ S).then f = f ρ S := rfl
/-! ### the law's draws -/
def sourceB : List S := [.asg (.nm 1) (.int 11), .for_ (.nm 2) .val [(.var 0)] [.asg (.nm 1) (.bin .mod (.b1 .int (.bin .add (.bin .add (.bin .mul (.var 1) (.int 69069)) (.bin .mul (.var 2) (.int 31))) (.int 5))) (.int 2147483629))], .ret (.mks (.rev (.comp (.b1 .abs (.var 2)) (.nm 2) .val [(.var 0)] (.bl true) [2])) (.int 1) (.var 1) (.int 0))]
def pickC : E := .and (.cmp .gt (.var 1) (.int 1)) (.and (.cmp .lt (.sget 0 .left) (.int 2)) (.cmp .gt (.slen 0) (.int 0)))
def pickB : List S := [.whl pickC [.sput 0 .left (.spop 0)], .asg (.nm 2) (.sget 0 .left), .ite (.or (.cmp .lt (.var 1) (.int 2)) (.cmp .gt (.var 2) (.int 1))) [.sput 0 .left (.bin .fdiv (.var 2) (.b2 .max (.int 1) (.var 1))), .ret (.bin .mod (.b1 .int (.var 2)) (.b2 .max (.int 1) (.var 1)))] [], .sput 0 .turn (.bin .add (.sget 0 .turn) (.int 1)), .asg (.nm 3) (.bin .mod (.b1 .int (.bin .add (.sget 0 .mixed) (.bin .mul (.sget 0 .turn) (.int 104729)))) (.int 998244353)), .asg (.nm 3) (.bin .mod (.b1 .int (.bin .add (.bin .mul (.var 3) (.var 3)) (.bin .mul (.sget 0 .turn) (.int 17)))) (.int 2147483647)), .ret (.bin .mod (.b1 .int (.bin .fdiv (.var 3) (.int 16))) (.var 1))]
/-- the source as it is meant -/
structure Src.Good (s : Src) : Prop where
  left : 0 ≤ s.left
  cells : ∀ c ∈ s.cells, 0 ≤ c
  mixed : 0 ≤ s.mixed
  turn : 0 ≤ s.turn
  len : s.cells.length ≤ 1000
theorem pickC_ev (C : Cal) (m : Int) (a b : Sl) (s : Src) : tru (ev C pickC [some (.fz .src), some (.fz (.int m)), a, b] (some s)) = .ok (decide (1 < m) && (decide (s.left < 2) && decide (0 < s.cells.length))) [some (.fz .src), some (.fz (.int m)), a, b] (some s) := by
  unfold pickC
  simp only [ev, opd, part, lift, Rs.bind, tru, slD?, src?, Opd.get, cmpD, vbool, Vl.d, Src.get, List.getElem?_cons_zero, List.getElem?_cons_succ, Option.bind_some]
  by_cases h1 : 1 < m
  · simp [h1]
    by_cases h2 : s.left < 2
    · simp [h2]
    · simp [h2]
  · simp [h1]
theorem pick_loop (C : Cal) (m : Int) (hm : 0 ≤ m) (a b : Sl) : ∀ (n : Nat) (s : Src), s.Good → s.cells.length < n → ∃ s', s'.Good ∧ s'.mem = s.mem ∧ (1 < m → s'.left < 2 → s'.cells = []) ∧
    whlF (fun ρ S => tru (ev C pickC ρ S)) (exs C [.sput 0 .left (.spop 0)]) n [some (.fz .src), some (.fz (.int m)), a, b] (some s) = .nx [some (.fz .src), some (.fz (.int m)), a, b] (some s')
  | 0, s, _, h => absurd h (Nat.not_lt_zero _)
  | n + 1, s, g, h => by
    rw [whlF, pickC_ev]
    cases hc : (decide (1 < m) && (decide (s.left < 2) && decide (0 < s.cells.length))) with
    | false =>
      refine ⟨s, g, rfl, fun h1 h2 => ?_, rfl⟩
      rw [decide_eq_true h1, decide_eq_true h2] at hc
      have := of_decide_eq_false hc
      exact List.length_eq_zero_iff.mp (by omega)
    | true =>
      simp only [Bool.and_eq_true, decide_eq_true_eq] at hc
      obtain ⟨h1, h2, h3⟩ := hc
      have hl : s.cells[s.cells.length - 1]? = some (s.cells[s.cells.length - 1]'(by omega)) := List.getElem?_eq_getElem _
      generalize s.cells[s.cells.length - 1]'(by omega) = x at hl
      have hx : 0 ≤ x := g.cells x (List.mem_of_getElem? hl)
      have g' : Src.Good { cells := s.cells.dropLast, left := x, mixed := s.mixed, turn := s.turn, mem := s.mem } := ⟨hx, fun c hc => g.cells c (List.dropLast_subset _ hc), g.mixed, g.turn, by rw [List.length_dropLast]; have := g.len; omega⟩
      obtain ⟨s', g2, em, e1, e2⟩ := pick_loop C m hm a b n _ g' (by show s.cells.dropLast.length < n; rw [List.length_dropLast]; omega)
      refine ⟨s', g2, em, e1, ?_⟩
      rw [← e2]
      simp only [exs, ex, ev, lift, Rs.bind, Rs.st, Rst.then, Rst.turn, slD?, src?, Vl.d, Src.put, int?, List.getElem?_cons_zero, hl, if_true]
theorem max1 {m : Int} (h : 0 ≤ m) : (if m > 1 then m else 1) = max 1 m := by split <;> omega
/-- a draw among m: a number below m (0 where m is 0 or 1) -/
theorem div_small {j : Int} (h : 0 < j ∧ j < 1073741824) : divOk j := ⟨h.1, by
  have h0 : j.natAbs ≠ 0 := by omega
  have : j.natAbs.log2 < 30 := (Nat.log2_lt h0).mpr (by omega)
  omega⟩
theorem pick_okM (C : Cal) (hC : 1000 < C.fuel) (m : Int) (hm : 0 ≤ m) (hm2 : m < 1073741824) (s : Src) (g : s.Good) : ∃ n s' ρ, exs C pickB (ini 4 [.src, .int m]) (some s) = .rt (.fz (.int n)) ρ (some s') ∧ s'.Good ∧ 0 ≤ n ∧ n < max 1 m ∧ s'.mem = s.mem := by
  have ei : ini 4 [.src, .int m] = [some (.fz .src), some (.fz (.int m)), none, none] := rfl
  rw [ei]
  obtain ⟨s1, g1, em, _, e1⟩ := pick_loop C m hm none none C.fuel s g (by have := g.len; omega)
  unfold pickB
  rw [exs, ex, e1]
  have e3 : (Rst.nx [some (.fz .src), some (.fz (.int m)), none, none] (some s1)).then (exs C [.asg (.nm 2) (.sget 0 .left), .ite (.or (.cmp .lt (.var 1) (.int 2)) (.cmp .gt (.var 2) (.int 1))) [.sput 0 .left (.bin .fdiv (.var 2) (.b2 .max (.int 1) (.var 1))), .ret (.bin .mod (.b1 .int (.var 2)) (.b2 .max (.int 1) (.var 1)))] [], .sput 0 .turn (.bin .add (.sget 0 .turn) (.int 1)), .asg (.nm 3) (.bin .mod (.b1 .int (.bin .add (.sget 0 .mixed) (.bin .mul (.sget 0 .turn) (.int 104729)))) (.int 998244353)), .asg (.nm 3) (.bin .mod (.b1 .int (.bin .add (.bin .mul (.var 3) (.var 3)) (.bin .mul (.sget 0 .turn) (.int 17)))) (.int 2147483647)), .ret (.bin .mod (.b1 .int (.bin .fdiv (.var 3) (.int 16))) (.var 1))])
      = exs C [.asg (.nm 2) (.sget 0 .left), .ite (.or (.cmp .lt (.var 1) (.int 2)) (.cmp .gt (.var 2) (.int 1))) [.sput 0 .left (.bin .fdiv (.var 2) (.b2 .max (.int 1) (.var 1))), .ret (.bin .mod (.b1 .int (.var 2)) (.b2 .max (.int 1) (.var 1)))] [], .sput 0 .turn (.bin .add (.sget 0 .turn) (.int 1)), .asg (.nm 3) (.bin .mod (.b1 .int (.bin .add (.sget 0 .mixed) (.bin .mul (.sget 0 .turn) (.int 104729)))) (.int 998244353)), .asg (.nm 3) (.bin .mod (.b1 .int (.bin .add (.bin .mul (.var 3) (.var 3)) (.bin .mul (.sget 0 .turn) (.int 17)))) (.int 2147483647)), .ret (.bin .mod (.b1 .int (.bin .fdiv (.var 3) (.int 16))) (.var 1))] [some (.fz .src), some (.fz (.int m)), none, none] (some s1) := rfl
  rw [e3]
  have hmax : 0 < max 1 m := by omega
  have hmax2 : divOk (max 1 m) := div_small ⟨hmax, by omega⟩
  by_cases hc : m < 2 ∨ 1 < s1.left
  · refine ⟨s1.left % max 1 m, { s1 with left := s1.left / max 1 m }, [some (.fz .src), some (.fz (.int m)), some (.fz (.int s1.left)), none], ?_, ⟨Int.ediv_nonneg g1.left (by omega), g1.cells, g1.mixed, g1.turn, g1.len⟩, Int.emod_nonneg _ (by omega), Int.emod_lt_of_pos _ hmax, em⟩
    have hb : (decide (m < 2) || decide (1 < s1.left)) = true := by
      rcases hc with h | h
      · rw [decide_eq_true h]; rfl
      · rw [decide_eq_true h, Bool.or_true]
    have hcond : ∀ x : Sl, tru (ev C (.or (.cmp .lt (.var 1) (.int 2)) (.cmp .gt (.var 2) (.int 1))) [some (.fz .src), some (.fz (.int m)), some (.fz (.int s1.left)), x] (some s1)) = .ok (decide (m < 2) || decide (1 < s1.left)) [some (.fz .src), some (.fz (.int m)), some (.fz (.int s1.left)), x] (some s1) := fun x => by
      simp only [ev, opd, lift, Rs.bind, tru, slD?, Opd.get, cmpD, vbool, Vl.d, List.getElem?_cons_zero, List.getElem?_cons_succ, Option.bind_some]
      by_cases h1 : m < 2
      · simp [h1]
      · simp [h1]
    have asg : ex C (.asg (.nm 2) (.sget 0 .left)) [some (.fz .src), some (.fz (.int m)), none, none] (some s1) = .nx [some (.fz .src), some (.fz (.int m)), some (.fz (.int s1.left)), none] (some s1) := by
      simp only [ex, ev, lift, Rs.bind, Rs.st, slD?, src?, Vl.d, Src.get, asgV, List.getElem?_cons_zero, List.set]
    rw [exs, asg]
    show exs C _ [some (.fz .src), some (.fz (.int m)), some (.fz (.int s1.left)), none] (some s1) = _
    rw [exs, ex, hcond, hb]
    simp only [exs, ex, ev, evR, opd, lift, Rs.bind, Rs.st, Rst.then, slD?, src?, Opd.get, binD, b1D, b2D, int?, Src.put, ok?, Vl.d, List.getElem?_cons_zero, List.getElem?_cons_succ, Option.bind_some, max1 hm, hmax, hmax2, decide_true, and_self, if_true]
  · have h1 : ¬ m < 2 := fun h => hc (.inl h)
    have h2 : ¬ 1 < s1.left := fun h => hc (.inr h)
    have hb : (decide (m < 2) || decide (1 < s1.left)) = false := by rw [decide_eq_false h1, decide_eq_false h2]; rfl
    have hcond : ∀ x : Sl, tru (ev C (.or (.cmp .lt (.var 1) (.int 2)) (.cmp .gt (.var 2) (.int 1))) [some (.fz .src), some (.fz (.int m)), some (.fz (.int s1.left)), x] (some s1)) = .ok false [some (.fz .src), some (.fz (.int m)), some (.fz (.int s1.left)), x] (some s1) := fun x => by
      simp only [ev, opd, lift, Rs.bind, tru, slD?, Opd.get, cmpD, vbool, Vl.d, List.getElem?_cons_zero, List.getElem?_cons_succ, Option.bind_some]
      simp [h1, h2]
    have asg : ex C (.asg (.nm 2) (.sget 0 .left)) [some (.fz .src), some (.fz (.int m)), none, none] (some s1) = .nx [some (.fz .src), some (.fz (.int m)), some (.fz (.int s1.left)), none] (some s1) := by
      simp only [ex, ev, lift, Rs.bind, Rs.st, slD?, src?, Vl.d, Src.get, asgV, List.getElem?_cons_zero, List.set]
    rw [exs, asg]
    show ∃ n s' ρ, exs C _ [some (.fz .src), some (.fz (.int m)), some (.fz (.int s1.left)), none] (some s1) = _ ∧ _
    rw [exs, ex, hcond]
    show ∃ n s' ρ, exs C _ [some (.fz .src), some (.fz (.int m)), some (.fz (.int s1.left)), none] (some s1) = _ ∧ _
    have p1 : (0 : Int) < 998244353 := by decide
    have p2 : (0 : Int) < 2147483647 := by decide
    have p3 : divOk 16 := div_small (by decide)
    have q1 : ∀ x : Int, mulOk x 104729 := fun x => .inl (.inr (by decide))
    have q2 : ∀ x : Int, mulOk x 17 := fun x => .inl (.inr (by decide))
    have q3 : ∀ x : Int, mulOk (x % 998244353) (x % 998244353) := fun x => .inl (.inl (by have := Int.emod_nonneg x (by decide : (998244353 : Int) ≠ 0); have := Int.emod_lt_of_pos x p1; omega))
    have hm0 : (0 : Int) < m := by omega
    refine ⟨(((s1.mixed + (s1.turn + 1) * 104729) % 998244353 * ((s1.mixed + (s1.turn + 1) * 104729) % 998244353) + (s1.turn + 1) * 17) % 2147483647) / 16 % m, { s1 with turn := s1.turn + 1 }, [some (.fz .src), some (.fz (.int m)), some (.fz (.int s1.left)), some (.fz (.int (((s1.mixed + (s1.turn + 1) * 104729) % 998244353 * ((s1.mixed + (s1.turn + 1) * 104729) % 998244353) + (s1.turn + 1) * 17) % 2147483647)))], ?_, ⟨g1.left, g1.cells, g1.mixed, by have := g1.turn; show 0 ≤ s1.turn + 1; omega, g1.len⟩, Int.emod_nonneg _ (by omega), ?_, em⟩
    rotate_left
    · have := Int.emod_lt_of_pos ((((s1.mixed + (s1.turn + 1) * 104729) % 998244353 * ((s1.mixed + (s1.turn + 1) * 104729) % 998244353) + (s1.turn + 1) * 17) % 2147483647) / 16) hm0
      omega
    · simp only [exs, ex, ev, evR, opd, lift, Rs.bind, Rs.st, Rst.then, slD?, src?, Opd.get, binD, b1D, b2D, int?, Src.put, Src.get, ok?, Vl.d, asgV, List.getElem?_cons_zero, List.getElem?_cons_succ, List.set, Option.bind_some, p1, p2, p3, q1, q2, q3, hm0, decide_true, and_self, if_true]
theorem pick_ok (C : Cal) (hC : 1000 < C.fuel) (m : Int) (hm : 0 ≤ m) (hm2 : m < 1073741824) (s : Src) (g : s.Good) : ∃ n s' ρ, exs C pickB (ini 4 [.src, .int m]) (some s) = .rt (.fz (.int n)) ρ (some s') ∧ s'.Good ∧ 0 ≤ n ∧ n < max 1 m := by
  obtain ⟨n, s', ρ, h1, h2, h3, h4, _⟩ := pick_okM C hC m hm hm2 s g
  exact ⟨n, s', ρ, h1, h2, h3, h4⟩
theorem source_loop (C : Cal) (sc : Sl) (S : So) : ∀ (ns : List Int) (m : Int) (c : Sl), 0 ≤ m → ∃ m' c', 0 ≤ m' ∧
    forL (.nm 2) (exs C [.asg (.nm 1) (.bin .mod (.b1 .int (.bin .add (.bin .add (.bin .mul (.var 1) (.int 69069)) (.bin .mul (.var 2) (.int 31))) (.int 5))) (.int 2147483629))]) (ns.map .int) [sc, some (.fz (.int m)), c] S = .nx [sc, some (.fz (.int m')), c'] S
  | [], m, c, h => ⟨m, c, h, rfl⟩
  | n :: ns, m, c, h => by
    have p1 : (0 : Int) < 2147483629 := by decide
    obtain ⟨m', c', h1, h2⟩ := source_loop C sc S ns ((m * 69069 + n * 31 + 5) % 2147483629) (some (.fz (.int n))) (Int.emod_nonneg _ (by decide))
    refine ⟨m', c', h1, ?_⟩
    rw [← h2, List.map_cons, forL]
    have q1 : ∀ x : Int, mulOk x 69069 := fun x => .inl (.inr (by decide))
    have q2 : ∀ x : Int, mulOk x 31 := fun x => .inl (.inr (by decide))
    simp only [exs, ex, ev, opd, lift, tgD, Rs.bind, Rs.st, Rst.then, Rst.turn, slD?, Opd.get, binD, b1D, ok?, Vl.d, asgV, List.getElem?_cons_zero, List.getElem?_cons_succ, List.set, Option.bind_some, p1, q1, q2, decide_true, if_true]
theorem ints_map : ∀ ns : List Int, ints? (ns.map .int) = some ns
  | [] => rfl
  | n :: ns => by rw [List.map_cons, ints?, ints_map ns]; rfl
theorem source_ok (C : Cal) (ns : List Int) (hl : ns.length ≤ 1000) : ∃ s ρ, exs C sourceB (ini 3 [.scr ns]) none = .rt (.fz .src) ρ (some s) ∧ s.Good := by
  have ei : ini 3 [.scr ns] = [some (.fz (.scr ns)), none, none] := rfl
  rw [ei]
  obtain ⟨m, c, hm, e1⟩ := source_loop C (some (.fz (.scr ns))) none ns 11 none (by decide)
  refine ⟨⟨(ns.map fun n => if n < 0 then -n else n).reverse, 1, m, 0, []⟩, [some (.fz (.scr ns)), some (.fz (.int m)), c], ?_, ⟨(by show (0 : Int) ≤ 1; decide), fun x hx => ?_, hm, (by show (0 : Int) ≤ 0; decide), by rw [List.length_reverse, List.length_map]; exact hl⟩⟩
  · have hcomp : ev C (.comp (.b1 .abs (.var 2)) (.nm 2) .val [(.var 0)] (.bl true) [2]) [some (.fz (.scr ns)), some (.fz (.int m)), c] none = .ok (.ow ((ns.map D.int).filterMap fun d => match d with | .int n => some (.int (if n < 0 then -n else n)) | _ => none)) [some (.fz (.scr ns)), some (.fz (.int m)), c] none := by
      refine ev_comp (items := ns.map .int) (ds := [.scr ns]) ?_ rfl (by rw [List.length_map]; unfold lim; omega) fun x hx => ?_
      · simp only [evs, ev, Rs.bind, Vl.d, List.getElem?_cons_zero]
      · obtain ⟨n, _, rfl⟩ := List.mem_map.mp hx
        refine ⟨[some (.fz (.scr ns)), some (.fz (.int m)), some (.fz (.int n))], ?_, rfl⟩
        simp only [trn, wipeR, tgD, ev, opd, lift, tru, Rs.bind, slD?, Opd.get, b1D, Vl.d, List.getElem?_cons_zero, List.getElem?_cons_succ, List.set, Option.bind_some, if_true]
    have hf : (ns.map D.int).filterMap (fun d => match d with | .int n => some (D.int (if n < 0 then -n else n)) | _ => none) = (ns.map fun n => if n < 0 then -n else n).map D.int := by
      clear e1 hcomp hl ei
      induction ns with
      | nil => rfl
      | cons n ns ih => rw [List.map_cons, List.filterMap_cons, ih, List.map_cons, List.map_cons]
    rw [hf] at hcomp
    unfold sourceB
    have s1 : exs C sourceB [some (.fz (.scr ns)), none, none] none = exs C [.for_ (.nm 2) .val [(.var 0)] [.asg (.nm 1) (.bin .mod (.b1 .int (.bin .add (.bin .add (.bin .mul (.var 1) (.int 69069)) (.bin .mul (.var 2) (.int 31))) (.int 5))) (.int 2147483629))], .ret (.mks (.rev (.comp (.b1 .abs (.var 2)) (.nm 2) .val [(.var 0)] (.bl true) [2])) (.int 1) (.var 1) (.int 0))] [some (.fz (.scr ns)), some (.fz (.int 11)), none] none := by
      unfold sourceB
      rw [exs, ex, ev]
      rfl
    unfold sourceB at s1
    rw [s1, exs, ex]
    have s2 : (evs C [(.var 0)] [some (.fz (.scr ns)), some (.fz (.int 11)), none] none) = .ok [.scr ns] [some (.fz (.scr ns)), some (.fz (.int 11)), none] none := by
      simp only [evs, ev, Rs.bind, Vl.d, List.getElem?_cons_zero]
    rw [s2]
    show ((forL (.nm 2) _ (ns.map .int) [some (.fz (.scr ns)), some (.fz (.int 11)), none] none).then _) = _
    rw [e1]
    show exs C _ [some (.fz (.scr ns)), some (.fz (.int m)), c] none = _
    rw [exs, ex]
    have s3 : evR C (.mks (.rev (.comp (.b1 .abs (.var 2)) (.nm 2) .val [(.var 0)] (.bl true) [2])) (.int 1) (.var 1) (.int 0)) [some (.fz (.scr ns)), some (.fz (.int m)), c] none = .ok (.fz .src) [some (.fz (.scr ns)), some (.fz (.int m)), c] (some ⟨(ns.map fun n => if n < 0 then -n else n).reverse, 1, m, 0, []⟩) := by
      unfold evR
      have hrev : ev C (.rev (.comp (.b1 .abs (.var 2)) (.nm 2) .val [(.var 0)] (.bl true) [2])) [some (.fz (.scr ns)), some (.fz (.int m)), c] none = .ok (.ow ((ns.map fun n => if n < 0 then -n else n).reverse.map D.int)) [some (.fz (.scr ns)), some (.fz (.int m)), c] none := by
        rw [ev]
        show ((ev C (.comp (.b1 .abs (.var 2)) (.nm 2) .val [(.var 0)] (.bl true) [2]) [some (.fz (.scr ns)), some (.fz (.int m)), c] none).bind fun v ρ S => Rs.ok (Opd.vl v.d) ρ S).bind _ = _
        rw [hcomp, List.map_reverse]
        rfl
      show ev C (.mks (.rev (.comp (.b1 .abs (.var 2)) (.nm 2) .val [(.var 0)] (.bl true) [2])) (.int 1) (.var 1) (.int 0)) _ none = _
      rw [ev, hrev]
      have e4 : ev C (.int 1) [some (.fz (.scr ns)), some (.fz (.int m)), c] none = .ok (.fz (.int 1)) [some (.fz (.scr ns)), some (.fz (.int m)), c] none := by rw [ev]
      have e5 : ev C (.var 1) [some (.fz (.scr ns)), some (.fz (.int m)), c] none = .ok (.fz (.int m)) [some (.fz (.scr ns)), some (.fz (.int m)), c] none := by rw [ev]; rfl
      have e6 : ev C (.int 0) [some (.fz (.scr ns)), some (.fz (.int m)), c] none = .ok (.fz (.int 0)) [some (.fz (.scr ns)), some (.fz (.int m)), c] none := by rw [ev]
      rw [Rs.bind_ok, e4, Rs.bind_ok, e5, Rs.bind_ok, e6, Rs.bind_ok]
      show (lift ((ints? ((ns.map fun n => if n < 0 then -n else n).reverse.map D.int)).map fun is => (⟨is, 1, m, 0, []⟩ : Src)) _ _).bind _ = _
      rw [ints_map]
      rfl
    rw [s3]
    rfl
  · have hx := List.mem_reverse.mp hx
    obtain ⟨n, _, rfl⟩ := List.mem_map.mp hx
    split <;> omega
end VI
set_option Elab.async false
set_option linter.all false
set_option maxRecDepth 100000
set_option maxHeartbeats 4000000
/-! VIr: simple data: what ==, in, index, repr say of them. -/
namespace VI
open PySem L2
mutual
/-- at most n deep; small ints, no texts, no instances -/
def D.sm : Nat → D → Bool
  | _, .non => true
  | _, .bl _ => true
  | _, .int i => decide (i.natAbs < 10 ^ 12)
  | n, .tup xs => (match n with
    | 0 => false
    | n + 1 => D.sms n xs)
  | n, .lst xs => (match n with
    | 0 => false
    | n + 1 => D.sms n xs)
  | _, _ => false
def D.sms : Nat → List D → Bool
  | _, [] => true
  | n, x :: xs => D.sm n x && D.sms n xs
end
mutual
/-- how much it holds -/
def D.ct : D → Nat
  | .int _ => 40
  | .tup xs => D.cts xs
  | .lst xs => D.cts xs
  | _ => 0
def D.cts : List D → Nat
  | [] => 0
  | x :: xs => D.ct x + 1 + D.cts xs
end
theorem log2_lt {n k : Nat} (h : n < 2 ^ k) (hk : 0 < k) : n.log2 < k := by
  by_cases h0 : n = 0
  · subst h0; rw [Nat.log2_zero]; exact hk
  · exact (Nat.log2_lt h0).mpr h
mutual
theorem D.sm_ok : ∀ (n : Nat) (d : D), d.sm n = true → d.plain = true ∧ d.py.canLay0 = true ∧ d.py.depth ≤ n ∧ d.py.showable = true ∧ d.py.leavesShort 13 = true ∧ d.py.weight ≤ d.ct
  | n, .non, _ => by simp [D.plain, D.py, PyData.canLay0, PyData.depth, PyData.showable, PyData.leavesShort, PyData.weight, D.ct]
  | n, .bl b, _ => by simp [D.plain, D.py, PyData.canLay0, PyData.depth, PyData.showable, PyData.leavesShort, PyData.weight, D.ct]
  | n, .int i, h => by
    have h : i.natAbs < 10 ^ 12 := by rw [D.sm] at h; exact of_decide_eq_true h
    have h40 : i.natAbs.log2 < 40 := log2_lt (Nat.lt_trans h (by decide)) (by decide)
    have h1 := PyData.shown_int_le h
    refine ⟨rfl, by rw [D.py, PyData.canLay0], by rw [D.py, PyData.depth]; exact Nat.zero_le _, ?_, ?_, ?_⟩
    · rw [D.py, PyData.showable]; exact decide_eq_true (by omega)
    · rw [D.py, PyData.leavesShort]; exact decide_eq_true h1
    · rw [D.py, PyData.weight, D.ct]; split <;> omega
  | 0, .tup xs, h => by rw [D.sm] at h; cases h
  | n + 1, .tup xs, h => by
    rw [D.sm] at h
    obtain ⟨h1, h2, h3, h4, h5, h6⟩ := D.sms_ok n xs h
    refine ⟨by rw [D.plain]; exact h1, by rw [D.py, PyData.canLay0]; exact h2, by rw [D.py, PyData.depth]; omega, by rw [D.py, PyData.showable]; exact h4, by rw [D.py, PyData.leavesShort]; exact h5, by rw [D.py, PyData.weight, D.ct]; exact h6⟩
  | 0, .lst xs, h => by rw [D.sm] at h; cases h
  | n + 1, .lst xs, h => by
    rw [D.sm] at h
    obtain ⟨h1, h2, h3, h4, h5, h6⟩ := D.sms_ok n xs h
    refine ⟨by rw [D.plain]; exact h1, by rw [D.py, PyData.canLay0]; exact h2, by rw [D.py, PyData.depth]; omega, by rw [D.py, PyData.showable]; exact h4, by rw [D.py, PyData.leavesShort]; exact h5, by rw [D.py, PyData.weight, D.ct]; exact h6⟩
  | n, .str _, h => by rw [D.sm] at h <;> first | cases h | simp
  | n, .dic _, h => by rw [D.sm] at h <;> first | cases h | simp
  | n, .obj _ _, h => by rw [D.sm] at h <;> first | cases h | simp
  | n, .src, h => by rw [D.sm] at h <;> first | cases h | simp
  | n, .scr _, h => by rw [D.sm] at h <;> first | cases h | simp
theorem D.sms_ok : ∀ (n : Nat) (xs : List D), D.sms n xs = true → D.plains xs = true ∧ PyData.canLayAll0 (D.pys xs) = true ∧ PyData.depthAll (D.pys xs) ≤ n ∧ PyData.showableAll (D.pys xs) = true ∧ PyData.leavesShortAll 13 (D.pys xs) = true ∧ PyData.weightAll (D.pys xs) ≤ D.cts xs
  | n, [], _ => by simp [D.plains, D.pys, PyData.canLayAll0, PyData.depthAll, PyData.showableAll, PyData.leavesShortAll, PyData.weightAll, D.cts]
  | n, x :: xs, h => by
    rw [D.sms, Bool.and_eq_true] at h
    obtain ⟨a1, a2, a3, a4, a5, a6⟩ := D.sm_ok n x h.1
    obtain ⟨b1, b2, b3, b4, b5, b6⟩ := D.sms_ok n xs h.2
    refine ⟨by rw [D.plains, a1, b1]; rfl, by rw [D.pys, PyData.canLayAll0, a2, b2]; rfl, by rw [D.pys, PyData.depthAll]; omega, by rw [D.pys, PyData.showableAll, a4, b4]; rfl, by rw [D.pys, PyData.leavesShortAll, a5, b5]; rfl, by rw [D.pys, PyData.weightAll, D.cts]; omega⟩
end
theorem D.sms_all {n : Nat} : ∀ {xs : List D}, D.sms n xs = true ↔ ∀ x ∈ xs, x.sm n = true
  | [] => by simp [D.sms]
  | x :: xs => by rw [D.sms, Bool.and_eq_true, D.sms_all]; simp
/-! ### repr, == -/
theorem repr_sm {n : Nat} {d : D} (h : d.sm n = true) (hn : n ≤ 60) (hc : 15 * d.ct + 13 ≤ lim) : b1D .repr d = some (.fz (.str d.py.shown)) := by
  obtain ⟨a1, a2, a3, a4, a5, a6⟩ := D.sm_ok n d h
  have hs := PyData.shown_le 13 (by decide) d.py a5
  show ok? (d.plain && d.py.showable && decide (d.py.shown.length ≤ lim) && decide (d.py.depth ≤ 60)) (Vl.fz (.str d.py.shown)) = _
  unfold ok?
  rw [if_pos]
  simp only [a1, a2, a4, Bool.true_and, Bool.and_eq_true, decide_eq_true_eq]
  exact ⟨by have : (13 + 2) * d.py.weight ≤ 15 * d.ct := Nat.mul_le_mul_left _ a6; omega, by omega⟩
theorem shaped_sm {n : Nat} {d : D} (h : d.sm n = true) (hn : n ≤ 64) : SeqAt.shaped d.py = true := by
  obtain ⟨a1, a2, a3, _⟩ := D.sm_ok n d h
  unfold SeqAt.shaped
  rw [a2, Bool.true_and]
  exact decide_eq_true (by omega)
/-- without truth values, == is equality -/
def D.nb : D → Bool
  | .bl _ => false
  | _ => true
mutual
def D.nbs : D → Bool
  | .bl _ => false
  | .tup xs => D.nbss xs
  | .lst xs => D.nbss xs
  | _ => true
def D.nbss : List D → Bool
  | [] => true
  | x :: xs => x.nbs && D.nbss xs
end
mutual
theorem D.eqv_iff : ∀ (n : Nat) (x y : D), x.sm n = true → y.sm n = true → x.nbs = true → y.nbs = true → (PyData.eqv x.py y.py = true ↔ x = y)
  | n, .non, y, _, h, _, _ => by cases y <;> simp [D.py, PyData.eqv, D.sm] at h ⊢
  | n, .int i, y, _, h, _, hy => by cases y <;> simp [D.py, PyData.eqv, D.sm, D.nbs] at h hy ⊢
  | n, .bl _, _, _, _, h, _ => by simp [D.nbs] at h
  | 0, .tup _, _, h, _, _, _ => by simp [D.sm] at h
  | n + 1, .tup xs, y, h, h2, h3, h4 => by
    cases y with
    | tup ys =>
      rw [D.sm] at h h2
      rw [D.nbs] at h3 h4
      rw [D.py, D.py, PyData.eqv, D.eqvs_iff n xs ys h h2 h3 h4]
      simp
    | _ => simp [D.py, PyData.eqv, D.sm] at h2 ⊢
  | 0, .lst _, _, h, _, _, _ => by simp [D.sm] at h
  | n + 1, .lst xs, y, h, h2, h3, h4 => by
    cases y with
    | lst ys =>
      rw [D.sm] at h h2
      rw [D.nbs] at h3 h4
      rw [D.py, D.py, PyData.eqv, D.eqvs_iff n xs ys h h2 h3 h4]
      simp
    | _ => simp [D.py, PyData.eqv, D.sm] at h2 ⊢
  | n, .str _, _, h, _, _, _ => by simp [D.sm] at h
  | n, .dic _, _, h, _, _, _ => by simp [D.sm] at h
  | n, .obj _ _, _, h, _, _, _ => by simp [D.sm] at h
  | n, .src, _, h, _, _, _ => by simp [D.sm] at h
  | n, .scr _, _, h, _, _, _ => by simp [D.sm] at h
theorem D.eqvs_iff : ∀ (n : Nat) (xs ys : List D), D.sms n xs = true → D.sms n ys = true → D.nbss xs = true → D.nbss ys = true → (PyData.eqvAll (D.pys xs) (D.pys ys) = true ↔ xs = ys)
  | n, [], [], _, _, _, _ => by simp [D.pys, PyData.eqvAll]
  | n, [], _ :: _, _, _, _, _ => by simp [D.pys, PyData.eqvAll]
  | n, _ :: _, [], _, _, _, _ => by simp [D.pys, PyData.eqvAll]
  | n, x :: xs, y :: ys, h1, h2, h3, h4 => by
    rw [D.sms, Bool.and_eq_true] at h1 h2
    rw [D.nbss, Bool.and_eq_true] at h3 h4
    rw [D.pys, D.pys, PyData.eqvAll, Bool.and_eq_true, D.eqv_iff n x y h1.1 h2.1 h3.1 h4.1, D.eqvs_iff n xs ys h1.2 h2.2 h3.2 h4.2]
    simp
end
theorem eqD0_sm {n : Nat} {x y : D} (h1 : x.sm n = true) (h2 : y.sm n = true) (h3 : x.nbs = true) (h4 : y.nbs = true) (hn : n ≤ 64) : ∃ b, eqD0 x y = some b ∧ (b = true ↔ x = y) := by
  refine ⟨PyData.eqv x.py y.py, ?_, D.eqv_iff n x y h1 h2 h3 h4⟩
  unfold eqD0 ok?
  rw [if_pos]
  rw [(D.sm_ok n x h1).1, (D.sm_ok n y h2).1, shaped_sm h1 hn, shaped_sm h2 hn]
  rfl
theorem eqD_sm {n : Nat} {x y : D} (h1 : x.sm n = true) (h2 : y.sm n = true) (h3 : x.nbs = true) (h4 : y.nbs = true) (hn : n ≤ 64) : ∃ b, eqD x y = some b ∧ (b = true ↔ x = y) := by
  have e : eqD x y = eqD0 x y := by cases x <;> first | rfl | simp [D.sm] at h1
  rw [e]
  exact eqD0_sm h1 h2 h3 h4 hn
theorem eqv_any {n : Nat} {x : D} (h1 : x.sm n = true) (h3 : x.nbs = true) : ∀ (ys : List D), D.sms n ys = true → D.nbss ys = true → (ys.any (fun y => PyData.eqv y.py x.py) = true ↔ x ∈ ys)
  | [], _, _ => by simp
  | y :: ys, a, b => by
    rw [D.sms, Bool.and_eq_true] at a
    rw [D.nbss, Bool.and_eq_true] at b
    rw [List.any_cons, Bool.or_eq_true, eqv_any h1 h3 ys a.2 b.2, D.eqv_iff n y x a.1 h1 b.1 h3, List.mem_cons]
    constructor
    · rintro (rfl | h)
      · exact .inl rfl
      · exact .inr h
    · rintro (rfl | h)
      · exact .inl rfl
      · exact .inr h
theorem inD_sm {n : Nat} {x : D} {ys : List D} (h1 : x.sm n = true) (h2 : D.sms n ys = true) (h3 : x.nbs = true) (h4 : D.nbss ys = true) (hn : n ≤ 63) : ∃ b, inD x ys = some b ∧ (b = true ↔ x ∈ ys) := by
  refine ⟨_, ?_, eqv_any h1 h3 ys h2 h4⟩
  have hl : (D.lst ys).sm (n + 1) = true := by rw [D.sm]; exact h2
  have e : (D.lst ys).py = .list (D.pys ys) := by rw [D.py]
  unfold inD ok?
  rw [if_pos]
  rw [(D.sm_ok n x h1).1, (D.sms_ok n ys h2).1, shaped_sm h1 (by omega), ← e, shaped_sm hl (by omega)]
  rfl
/-! ### lists of small numbers -/
def dn (l : List Nat) : List D := l.map fun (i : Nat) => D.int i
theorem dn_length (l : List Nat) : (dn l).length = l.length := List.length_map _
theorem dn_get (l : List Nat) (i : Nat) : (dn l)[i]? = (l[i]?).map fun (i : Nat) => D.int i := List.getElem?_map ..
theorem dn_sms {l : List Nat} (h : ∀ i ∈ l, i < 10 ^ 12) (n : Nat) : D.sms n (dn l) = true := D.sms_all.mpr fun x hx => by
  obtain ⟨i, hi, rfl⟩ := List.mem_map.mp hx
  rw [D.sm]
  exact decide_eq_true (by have := h i hi; omega)
theorem dn_nbss : ∀ l : List Nat, D.nbss (dn l) = true
  | [] => rfl
  | i :: l => by
    have e : (D.int (i : Nat)).nbs = true := rfl
    rw [dn, List.map_cons, D.nbss, e, Bool.true_and]
    exact dn_nbss l
theorem rngL_dn (n : Nat) : rngL 0 n = dn (List.range n) := by
  unfold rngL dn
  rw [Int.sub_zero, Int.toNat_natCast]
  refine List.map_congr_left fun i _ => ?_
  rw [Int.zero_add]
theorem find_dn (y : Nat) : ∀ l : List Nat, y ∈ l → ((dn l).findIdx? fun z => PyData.eqv z.py (D.int (y : Nat)).py) = some (l.idxOf y)
  | [], h => by cases h
  | x :: l, h => by
    rw [dn, List.map_cons, List.findIdx?_cons, List.idxOf_cons]
    have e : PyData.eqv (D.int (x : Nat)).py (D.int (y : Nat)).py = (x == y) := by
      rw [D.py, D.py, PyData.eqv, Bool.eq_iff_iff, beq_iff_eq, beq_iff_eq]
      omega
    rw [e]
    cases q : (x == y) with
    | true => rfl
    | false =>
      have hy : y ∈ l := by
        rcases List.mem_cons.mp h with rfl | h
        · simp at q
        · exact h
      have ih := find_dn y l hy
      rw [dn] at ih
      rw [if_neg Bool.false_ne_true, ih]
      rfl
theorem idx_dn {l : List Nat} {y : Nat} (h : y ∈ l) (hs : ∀ i ∈ l, i < 10 ^ 12) : idxI (dn l) (.int (y : Nat)) = some (.fz (.int (l.idxOf y : Nat))) := by
  have hy : (D.int (y : Nat)).sm 0 = true := by rw [D.sm]; exact decide_eq_true (by have := hs y h; omega)
  have h2 := dn_sms hs 0
  have hl : (D.lst (dn l)).sm 1 = true := by rw [D.sm]; exact h2
  have e : (D.lst (dn l)).py = .list (D.pys (dn l)) := by rw [D.py]
  unfold idxI
  rw [if_pos, find_dn y l h]
  · rfl
  · rw [(D.sm_ok 0 _ hy).1, (D.sms_ok 0 _ h2).1, shaped_sm hy (by decide), ← e, shaped_sm hl (by decide)]
    rfl
theorem rng_one {b : Nat} (hb : b < 2 ^ 40) : rng? (2 ^ 62) [.int (b : Nat)] = some (rngL 0 (b : Nat)) := by
  have h : -(2 ^ 62 : Int) ≤ (b : Nat) ∧ ((b : Nat) : Int) < 2 ^ 62 := ⟨by omega, by omega⟩
  simp only [rng?, ok?, decide_eq_true h, if_true]
theorem rng_two {a b : Nat} (ha : a < 2 ^ 40) (hb : b < 2 ^ 40) : rng? (2 ^ 62) [.int (a : Nat), .int (b : Nat)] = some (rngL (a : Nat) (b : Nat)) := by
  have h : -(2 ^ 62 : Int) ≤ (a : Nat) ∧ ((a : Nat) : Int) < 2 ^ 62 ∧ -(2 ^ 62 : Int) ≤ (b : Nat) ∧ ((b : Nat) : Int) < 2 ^ 62 := ⟨by omega, by omega, by omega, by omega⟩
  simp only [rng?, ok?, decide_eq_true h, if_true]
/-! ### one step of the evaluator -/
section
variable {C : Cal} {ρ ρ1 ρ2 ρ3 : Rho} {S S1 S2 S3 : So} {a b c e : E} {x y z : Opd} {dx dy dz : D} {v w : Vl}
theorem op_var {i : Nat} {d : D} (h : slD? ρ i = some d) : opd (.var i) ρ S (ev C (.var i) ρ S) = .ok (.sl i) ρ S := by
  show (lift (slD? ρ i) ρ S).bind _ = _
  rw [h]
  rfl
theorem op_val (hn : ∀ i, e ≠ .var i) (h : ev C e ρ S = .ok v ρ1 S1) : opd e ρ S (ev C e ρ S) = .ok (.vl v.d) ρ1 S1 := by
  have q : opd e ρ S (ev C e ρ S) = (ev C e ρ S).bind fun v ρ S => .ok (.vl v.d) ρ S := by
    cases e <;> first | rfl | exact absurd rfl (hn _)
  rw [q, h]
  rfl
theorem ev_bin {op : Bop} (ha : opd a ρ S (ev C a ρ S) = .ok x ρ1 S1) (hb : opd b ρ1 S1 (ev C b ρ1 S1) = .ok y ρ2 S2) (hx : x.get ρ2 = some dx) (hy : y.get ρ2 = some dy) (h : binD op dx dy = some v) : ev C (.bin op a b) ρ S = .ok v ρ2 S2 := by
  rw [ev, ha, Rs.bind_ok, hb, Rs.bind_ok, hx, Option.bind_some, hy, Option.bind_some, h]
  rfl
theorem ev_cmp {op : Cop} {q : Bool} (ha : opd a ρ S (ev C a ρ S) = .ok x ρ1 S1) (hb : opd b ρ1 S1 (ev C b ρ1 S1) = .ok y ρ2 S2) (hx : x.get ρ2 = some dx) (hy : y.get ρ2 = some dy) (h : cmpD op dx dy = some q) : ev C (.cmp op a b) ρ S = .ok (.fz (.bl q)) ρ2 S2 := by
  rw [ev, ha, Rs.bind_ok, hb, Rs.bind_ok, hx, Option.bind_some, hy, Option.bind_some, h]
  rfl
theorem ev_ix (ha : opd a ρ S (ev C a ρ S) = .ok x ρ1 S1) (hb : opd b ρ1 S1 (ev C b ρ1 S1) = .ok y ρ2 S2) (hx : x.get ρ2 = some dx) (hy : y.get ρ2 = some dy) (h : ixD dx dy = some v) : ev C (.ix a b) ρ S = .ok v ρ2 S2 := by
  rw [ev, ha, Rs.bind_ok, hb, Rs.bind_ok, hx, Option.bind_some, hy, Option.bind_some, h]
  rfl
theorem ev_b1 {o : B1} (ha : opd a ρ S (ev C a ρ S) = .ok x ρ1 S1) (hx : x.get ρ1 = some dx) (h : b1D o dx = some v) : ev C (.b1 o a) ρ S = .ok v ρ1 S1 := by
  rw [ev, ha, Rs.bind_ok, hx, Option.bind_some, h]
  rfl
theorem ev_rev (ha : opd a ρ S (ev C a ρ S) = .ok x ρ1 S1) (hx : x.get ρ1 = some dx) (h : revD dx = some v) : ev C (.rev a) ρ S = .ok v ρ1 S1 := by
  rw [ev, ha, Rs.bind_ok, hx, Option.bind_some, h]
  rfl
theorem ev_call {n : Nat} {es : List E} {ds : List D} (ha : evs C es ρ S = .ok ds ρ1 S1) (h : C.call (.f n) ds S1 = .ok v S2) : ev C (.call n es) ρ S = .ok v ρ1 S2 := by
  rw [ev, ha, Rs.bind_ok, h]
  rfl
theorem evs_nil : evs C [] ρ S = .ok [] ρ S := by rw [evs]
theorem evs_cons {es : List E} {ds : List D} (h : ev C e ρ S = .ok v ρ1 S1) (hs : evs C es ρ1 S1 = .ok ds ρ2 S2) : evs C (e :: es) ρ S = .ok (v.d :: ds) ρ2 S2 := by
  rw [evs, h, Rs.bind_ok, hs, Rs.bind_ok]
theorem ev_lst {es : List E} {ds : List D} (h : evs C es ρ S = .ok ds ρ1 S1) (hl : ds.length ≤ lim) : ev C (.lst es) ρ S = .ok (.ow ds) ρ1 S1 := by
  rw [ev, h, Rs.bind_ok, if_pos hl]
theorem ev_tup {es : List E} {ds : List D} (h : evs C es ρ S = .ok ds ρ1 S1) (hl : ds.length ≤ lim) : ev C (.tup es) ρ S = .ok (.fz (.tup ds)) ρ1 S1 := by
  rw [ev, h, Rs.bind_ok, if_pos hl]
theorem ev_int {i : Int} : ev C (.int i) ρ S = .ok (.fz (.int i)) ρ S := by rw [ev]
theorem ev_var {i : Nat} {d : D} (h : ρ[i]? = some (some (.fz d))) : ev C (.var i) ρ S = .ok (.fz d) ρ S := by rw [ev, h]
theorem ev_varO {i : Nat} {xs : List D} (h : ρ[i]? = some (some (.ow xs))) : ev C (.var i) ρ S = .ok (.fz (.lst xs)) (ρ.set i (some (.fz (.lst xs)))) S := by rw [ev, h]
theorem tru_bl {q : Bool} (h : ev C e ρ S = .ok (.fz (.bl q)) ρ1 S1) : tru (ev C e ρ S) = .ok q ρ1 S1 := by rw [h]; rfl
theorem ev_ife {q : Bool} {r : Rs Vl} (hc : ev C c ρ S = .ok (.fz (.bl q)) ρ1 S1) (h : (if q then ev C a ρ1 S1 else ev C b ρ1 S1) = r) : ev C (.ife c a b) ρ S = r := by
  rw [ev, tru_bl hc, Rs.bind_ok, h]
theorem ev_orT (ha : ev C a ρ S = .ok (.fz (.bl true)) ρ1 S1) : ev C (.or a b) ρ S = .ok (.fz (.bl true)) ρ1 S1 := by
  rw [ev, tru_bl ha]; rfl
theorem ev_orF {r : Rs Vl} (ha : ev C a ρ S = .ok (.fz (.bl false)) ρ1 S1) (hb : ev C b ρ1 S1 = r) : ev C (.or a b) ρ S = r := by
  rw [ev, tru_bl ha, Rs.bind_ok, ← hb]; rfl
theorem ev_andF (ha : ev C a ρ S = .ok (.fz (.bl false)) ρ1 S1) : ev C (.and a b) ρ S = .ok (.fz (.bl false)) ρ1 S1 := by
  rw [ev, tru_bl ha]; rfl
theorem ev_andT {r : Rs Vl} (ha : ev C a ρ S = .ok (.fz (.bl true)) ρ1 S1) (hb : ev C b ρ1 S1 = r) : ev C (.and a b) ρ S = r := by
  rw [ev, tru_bl ha, Rs.bind_ok, ← hb]; rfl
theorem ev_not {q : Bool} (ha : ev C a ρ S = .ok (.fz (.bl q)) ρ1 S1) : ev C (.not a) ρ S = .ok (.fz (.bl !q)) ρ1 S1 := by
  rw [ev, tru_bl ha]; rfl
/-- statements -/
theorem exs_cons {s : VI.S} {ss : List VI.S} {r : Rst} (h : ex C s ρ S = .nx ρ1 S1) (hs : exs C ss ρ1 S1 = r) : exs C (s :: ss) ρ S = r := by
  rw [exs, h, Rst.then_nx, hs]
theorem exs_rt {s : VI.S} {ss : List VI.S} (h : ex C s ρ S = .rt v ρ1 S1) : exs C (s :: ss) ρ S = .rt v ρ1 S1 := by
  rw [exs, h]; rfl
theorem exs_nil : exs C [] ρ S = .nx ρ S := by rw [exs]
theorem ex_asg {i : Nat} (h : ev C e ρ S = .ok v ρ1 S1) : ex C (.asg (.nm i) e) ρ S = .nx (ρ1.set i (some v)) S1 := by
  rw [ex, h, Rs.st_ok]; rfl
theorem ex_if {q : Bool} {p n : List VI.S} {r : Rst} (hc : ev C c ρ S = .ok (.fz (.bl q)) ρ1 S1) (h : (if q then exs C p ρ1 S1 else exs C n ρ1 S1) = r) : ex C (.ite c p n) ρ S = r := by
  rw [ex, tru_bl hc, Rs.st_ok, h]
theorem ex_for {t : Tg} {k : ItK} {es : List E} {ds items : List D} {bd : List VI.S} {r : Rst} (ha : evs C es ρ S = .ok ds ρ1 S1) (hi : itD k ds = some items) (h : forL t (exs C bd) items ρ1 S1 = r) : ex C (.for_ t k es bd) ρ S = r := by
  rw [ex, ha, Rs.st_ok, hi, ← h]; rfl
theorem ex_ret (hn : ∀ i, e ≠ .var i) (h : ev C e ρ S = .ok v ρ1 S1) : ex C (.ret e) ρ S = .rt v ρ1 S1 := by
  have q : evR C e ρ S = ev C e ρ S := by
    unfold evR
    cases e <;> first | rfl | exact absurd rfl (hn _)
  rw [ex, q, h, Rs.st_ok]
theorem ex_retV {i : Nat} (h : ρ[i]? = some (some v)) : ex C (.ret (.var i)) ρ S = .rt v ρ S := by
  have q : evR C (.var i) ρ S = .ok v ρ S := by
    show (match ρ[i]? with
      | some (some v) => Rs.ok v ρ S
      | _ => .no) = _
    rw [h]
  rw [ex, q, Rs.st_ok]
/-- a turn of a for -/
theorem for_nx {i : Nat} {d : D} {ds : List D} {bd : List VI.S} {r : Rst} (h : exs C bd (ρ.set i (some (.fz d))) S = .nx ρ1 S1) (hr : forL (.nm i) (exs C bd) ds ρ1 S1 = r) : forL (.nm i) (exs C bd) (d :: ds) ρ S = r := by
  have e1 : forL (.nm i) (exs C bd) (d :: ds) ρ S = (exs C bd (ρ.set i (some (.fz d))) S).turn (forL (.nm i) (exs C bd) ds) := by rw [forL]; rfl
  rw [e1, h, ← hr]
  rfl
theorem for_nil {t : Tg} {bd : List VI.S} : forL t (exs C bd) [] ρ S = .nx ρ S := by rw [forL]
theorem trn_t {i : Nat} {d : D} {mc me : E} (hc : ev C mc (ρ.set i (some (.fz d))) S = .ok (.fz (.bl true)) ρ2 S2) (he : ev C me ρ2 S2 = .ok v ρ3 S3) : trn C (.nm i) mc me d ρ S = .ok (some v.d) ρ3 S3 := by
  have e1 : trn C (.nm i) mc me d ρ S = (tru (ev C mc (ρ.set i (some (.fz d))) S)).bind fun q ρ S => if q then (ev C me ρ S).bind fun v ρ S => .ok (some v.d) ρ S else .ok none ρ S := rfl
  rw [e1, tru_bl hc, Rs.bind_ok, if_pos rfl, he, Rs.bind_ok]
theorem trn_f {i : Nat} {d : D} {mc me : E} (hc : ev C mc (ρ.set i (some (.fz d))) S = .ok (.fz (.bl false)) ρ2 S2) : trn C (.nm i) mc me d ρ S = .ok none ρ2 S2 := by
  have e1 : trn C (.nm i) mc me d ρ S = (tru (ev C mc (ρ.set i (some (.fz d))) S)).bind fun q ρ S => if q then (ev C me ρ S).bind fun v ρ S => .ok (some v.d) ρ S else .ok none ρ S := rfl
  rw [e1, tru_bl hc, Rs.bind_ok, if_neg Bool.false_ne_true]
theorem ev_true : ev C (.bl true) ρ S = .ok (.fz (.bl true)) ρ S := by rw [ev]
theorem ix_dn {l : List Nat} {i : Nat} (h : i < l.length) : ixD (.tup (dn l)) (.int (i : Nat)) = some (.fz (.int ((l.getD i 0 : Nat) : Int))) := by
  have hx : ixN (dn l).length ((i : Nat) : Int) = some i := by
    unfold ixN
    rw [dn_length, if_pos (by omega), if_pos (by omega), Int.toNat_natCast]
  show (atI (dn l) ((i : Nat) : Int)).map Vl.fz = _
  unfold atI
  rw [hx, Option.bind_some, dn_get, List.getElem?_eq_getElem h, List.getD_eq_getElem?_getD, List.getElem?_eq_getElem h]
  rfl
end
end VI
set_option Elab.async false
set_option linter.all false
set_option maxRecDepth 100000
set_option maxHeartbeats 4000000
/-! VIs: what holds behind an expression, a statement, a call: one rule for each form, so that a def is walked from its first statement to its last. -/
namespace VI
open PySem L2
abbrev PQ (α : Type) := α → Rho → So → Prop
def Rs.holds {α : Type} (r : Rs α) (Q : PQ α) (R : PQ Exc) : Prop := match r with
  | .ok a ρ S => Q a ρ S
  | .rs x ρ S => R x ρ S
  | .no => False
theorem Rs.holds_bind {α β : Type} {r : Rs α} {f : α → Rho → So → Rs β} {Q : PQ β} {R : PQ Exc} (h : r.holds (fun a ρ S => (f a ρ S).holds Q R) R) : (r.bind f).holds Q R := by
  cases r <;> exact h
theorem Rs.holds_mono {α : Type} {r : Rs α} {Q Q' : PQ α} {R R' : PQ Exc} (h : r.holds Q R) (hq : ∀ a ρ S, Q a ρ S → Q' a ρ S) (hr : ∀ a ρ S, R a ρ S → R' a ρ S) : r.holds Q' R' := by
  cases r with
  | ok a ρ S => exact hq a ρ S h
  | rs x ρ S => exact hr x ρ S h
  | no => exact h
/-- an end of a statement -/
def Rst.holds (r : Rst) (Q : Rst → Prop) : Prop := match r with
  | .no => False
  | r => Q r
theorem Rst.holds_mono {r : Rst} {Q Q' : Rst → Prop} (h : r.holds Q) (hq : ∀ r, Q r → Q' r) : r.holds Q' := by
  cases r <;> first | exact hq _ h | exact h
def xR (Q : Rst → Prop) : PQ Exc := fun x ρ S => Q (.rs x ρ S)
theorem Rs.holds_st {α : Type} {r : Rs α} {f : α → Rho → So → Rst} {Q : Rst → Prop} (h : r.holds (fun a ρ S => (f a ρ S).holds Q) (xR Q)) : (r.st f).holds Q := by
  cases r <;> exact h
theorem Rst.holds_then {r : Rst} {f : Rho → So → Rst} {Q : Rst → Prop} (h : r.holds fun r => match r with | .nx ρ S => (f ρ S).holds Q | r => Q r) : (r.then f).holds Q := by
  cases r <;> exact h
theorem Rst.holds_turn {r : Rst} {f : Rho → So → Rst} {Q : Rst → Prop} (h : r.holds fun r => match r with | .nx ρ S => (f ρ S).holds Q | .ct ρ S => (f ρ S).holds Q | .bk ρ S => Q (.nx ρ S) | r => Q r) : (r.turn f).holds Q := by
  cases r <;> exact h
theorem holds_lift {α : Type} {o : Option α} {a : α} {ρ : Rho} {S : So} {Q : PQ α} {R : PQ Exc} (h : o = some a) (hq : Q a ρ S) : (lift o ρ S).holds Q R := by
  subst h; exact hq
/-- behind an expression -/
structure WE (C : Cal) (e : E) (ρ : Rho) (S : So) (Q : PQ Vl) (R : PQ Exc) : Prop where
  h : (ev C e ρ S).holds Q R
structure WO (C : Cal) (e : E) (ρ : Rho) (S : So) (Q : PQ Opd) (R : PQ Exc) : Prop where
  h : (opd e ρ S (ev C e ρ S)).holds Q R
structure WP (C : Cal) (e : E) (ρ : Rho) (S : So) (Q : PQ (Option Int)) (R : PQ Exc) : Prop where
  h : (part e ρ S (ev C e ρ S)).holds Q R
structure WB (C : Cal) (e : E) (ρ : Rho) (S : So) (Q : PQ Bool) (R : PQ Exc) : Prop where
  h : (tru (ev C e ρ S)).holds Q R
structure WL (C : Cal) (es : List E) (ρ : Rho) (S : So) (Q : PQ (List D)) (R : PQ Exc) : Prop where
  h : (evs C es ρ S).holds Q R
structure WV (C : Cal) (es : List E) (ρ : Rho) (S : So) (Q : PQ (List Vl)) (R : PQ Exc) : Prop where
  h : (evV C es ρ S).holds Q R
structure WS (C : Cal) (s : S) (ρ : Rho) (S : So) (Q : Rst → Prop) : Prop where
  h : (ex C s ρ S).holds Q
structure WSS (C : Cal) (ss : List S) (ρ : Rho) (S : So) (Q : Rst → Prop) : Prop where
  h : (exs C ss ρ S).holds Q
def Rc.holds (r : Rc) (Q : Vl → So → Prop) (R : Exc → So → Prop) : Prop := match r with
  | .ok v S => Q v S
  | .rs x S => R x S
  | .no => False
/-- behind a call: levels k, def f, arguments ds -/
structure WC (Γ : Tab) (fuel k : Nat) (f : Fn) (ds : List D) (S : So) (Q : Vl → So → Prop) (R : Exc → So → Prop) : Prop where
  h : (callD Γ fuel k f ds S).holds Q R
@[irreducible] def CC (Γ : Tab) (fuel k : Nat) : Cal := ⟨callD Γ fuel k, fuel⟩
theorem CC_eq (Γ : Tab) (fuel k : Nat) : CC Γ fuel k = ⟨callD Γ fuel k, fuel⟩ := by unfold CC; rfl
/-- what stands where -/
structure At (ρ : Rho) (i : Nat) (d : D) : Prop where
  h : slD? ρ i = some d
structure Gt (x : Opd) (ρ : Rho) (d : D) : Prop where
  h : x.get ρ = some d
structure Put (ρ : Rho) (i : Nat) (v : Sl) (ρ' : Rho) : Prop where
  h : ρ.set i v = ρ'
section
variable {C : Cal} {ρ ρ1 : Rho} {S : So} {Q : PQ Vl} {R : PQ Exc} {a b c e : E} {es : List E} {v : Vl} {d dx dy : D} {i : Nat}
theorem at_fz (h : ρ[i]? = some (some (.fz d))) : At ρ i d := ⟨by unfold slD?; rw [h]; rfl⟩
theorem at_ow {xs : List D} (h : ρ[i]? = some (some (.ow xs))) : At ρ i (.lst xs) := ⟨by unfold slD?; rw [h]; rfl⟩
theorem gt_sl (h : At ρ i d) : Gt (.sl i) ρ d := ⟨h.h⟩
theorem gt_fz : Gt (.vl (Vl.fz d).d) ρ d := ⟨rfl⟩
theorem gt_ow {xs : List D} : Gt (.vl (Vl.ow xs).d) ρ (.lst xs) := ⟨rfl⟩
theorem put_z {x : Sl} {v : Sl} : Put (x :: ρ) 0 v (v :: ρ) := ⟨rfl⟩
theorem put_s {x v : Sl} {n : Nat} (h : Put ρ n v ρ1) : Put (x :: ρ) (n + 1) v (x :: ρ1) := ⟨by rw [List.set_cons_succ, h.h]⟩
/-! ### expressions -/
theorem we_var (h : ρ[i]? = some (some (.fz d))) (q : Q (.fz d) ρ S) : WE C (.var i) ρ S Q R := ⟨by rw [ev, h]; exact q⟩
theorem we_varO {xs : List D} (h : ρ[i]? = some (some (.ow xs))) (p : Put ρ i (some (.fz (.lst xs))) ρ1) (q : Q (.fz (.lst xs)) ρ1 S) : WE C (.var i) ρ S Q R := ⟨by rw [ev, h]; show Q _ (ρ.set _ _) _; rw [p.h]; exact q⟩
theorem we_int {n : Int} (q : Q (.fz (.int n)) ρ S) : WE C (.int n) ρ S Q R := ⟨by rw [ev]; exact q⟩
theorem we_bl {n : Bool} (q : Q (.fz (.bl n)) ρ S) : WE C (.bl n) ρ S Q R := ⟨by rw [ev]; exact q⟩
theorem we_str {n : Str} (q : Q (.fz (.str n)) ρ S) : WE C (.str n) ρ S Q R := ⟨by rw [ev]; exact q⟩
theorem we_non (q : Q (.fz .non) ρ S) : WE C .non ρ S Q R := ⟨by rw [ev]; exact q⟩
theorem wo_var {Q : PQ Opd} (h : At ρ i d) (q : Q (.sl i) ρ S) : WO C (.var i) ρ S Q R := ⟨by
  show ((lift (slD? ρ i) ρ S).bind _).holds Q R
  rw [h.h]
  exact q⟩
theorem wo_val (hn : ∀ i, e ≠ .var i) {Q : PQ Opd} (h : WE C e ρ S (fun v ρ S => Q (.vl v.d) ρ S) R) : WO C e ρ S Q R := ⟨by
  have q : opd e ρ S (ev C e ρ S) = (ev C e ρ S).bind fun v ρ S => .ok (.vl v.d) ρ S := by
    cases e <;> first | rfl | exact absurd rfl (hn _)
  rw [q]
  exact Rs.holds_bind h.h⟩
theorem wl_nil {Q : PQ (List D)} (q : Q [] ρ S) : WL C [] ρ S Q R := ⟨by rw [evs]; exact q⟩
theorem wl_cons {Q : PQ (List D)} (h : WE C e ρ S (fun v ρ S => WL C es ρ S (fun ds ρ S => Q (v.d :: ds) ρ S) R) R) : WL C (e :: es) ρ S Q R := ⟨by
  rw [evs]
  exact Rs.holds_bind (Rs.holds_mono h.h (fun v ρ S h => Rs.holds_bind h.h) fun _ _ _ h => h)⟩
theorem wv_nil {Q : PQ (List Vl)} (q : Q [] ρ S) : WV C [] ρ S Q R := ⟨by rw [evV]; exact q⟩
theorem wv_cons {Q : PQ (List Vl)} (h : WE C e ρ S (fun v ρ S => WV C es ρ S (fun ds ρ S => Q (v :: ds) ρ S) R) R) : WV C (e :: es) ρ S Q R := ⟨by
  rw [evV]
  exact Rs.holds_bind (Rs.holds_mono h.h (fun v ρ S h => Rs.holds_bind h.h) fun _ _ _ h => h)⟩
theorem we_tup (h : WL C es ρ S (fun ds ρ S => ds.length ≤ lim ∧ Q (.fz (.tup ds)) ρ S) R) : WE C (.tup es) ρ S Q R := ⟨by
  rw [ev]
  exact Rs.holds_bind (Rs.holds_mono h.h (fun ds ρ S h => by rw [if_pos h.1]; exact h.2) fun _ _ _ h => h)⟩
theorem we_lst (h : WL C es ρ S (fun ds ρ S => ds.length ≤ lim ∧ Q (.ow ds) ρ S) R) : WE C (.lst es) ρ S Q R := ⟨by
  rw [ev]
  exact Rs.holds_bind (Rs.holds_mono h.h (fun ds ρ S h => by rw [if_pos h.1]; exact h.2) fun _ _ _ h => h)⟩
/-- two operands are there -/
structure Op2 (x y : Opd) (f : D → D → Option Vl) (ρ : Rho) (S : So) (Q : PQ Vl) : Prop where
  h : ∃ dx dy v, x.get ρ = some dx ∧ y.get ρ = some dy ∧ f dx dy = some v ∧ Q v ρ S
theorem op2_ {x y : Opd} {f : D → D → Option Vl} (h1 : Gt x ρ dx) (h2 : Gt y ρ dy) (h : f dx dy = some v) (q : Q v ρ S) : Op2 x y f ρ S Q := ⟨dx, dy, v, h1.h, h2.h, h, q⟩
theorem Op2.holds {x y : Opd} {f : D → D → Option Vl} (h : Op2 x y f ρ S Q) : (lift ((x.get ρ).bind fun x => (y.get ρ).bind fun y => f x y) ρ S).holds Q R := by
  obtain ⟨dx, dy, v, h1, h2, h3, q⟩ := h.h
  rw [h1, Option.bind_some, h2, Option.bind_some, h3]
  exact q
structure Op1 (x : Opd) (f : D → Option Vl) (ρ : Rho) (S : So) (Q : PQ Vl) : Prop where
  h : ∃ dx v, x.get ρ = some dx ∧ f dx = some v ∧ Q v ρ S
theorem op1_ {x : Opd} {f : D → Option Vl} (h1 : Gt x ρ dx) (h : f dx = some v) (q : Q v ρ S) : Op1 x f ρ S Q := ⟨dx, v, h1.h, h, q⟩
theorem Op1.holds {x : Opd} {f : D → Option Vl} (h : Op1 x f ρ S Q) : (lift ((x.get ρ).bind f) ρ S).holds Q R := by
  obtain ⟨dx, v, h1, h3, q⟩ := h.h
  rw [h1, Option.bind_some, h3]
  exact q
theorem we_bin {op : Bop} (h : WO C a ρ S (fun x ρ S => WO C b ρ S (fun y ρ S => Op2 x y (binD op) ρ S Q) R) R) : WE C (.bin op a b) ρ S Q R := ⟨by
  rw [ev]
  exact Rs.holds_bind (Rs.holds_mono h.h (fun x ρ S h => Rs.holds_bind (Rs.holds_mono h.h (fun y ρ S h => h.holds) fun _ _ _ h => h)) fun _ _ _ h => h)⟩
theorem we_ix (h : WO C a ρ S (fun x ρ S => WO C b ρ S (fun y ρ S => Op2 x y ixD ρ S Q) R) R) : WE C (.ix a b) ρ S Q R := ⟨by
  rw [ev]
  exact Rs.holds_bind (Rs.holds_mono h.h (fun x ρ S h => Rs.holds_bind (Rs.holds_mono h.h (fun y ρ S h => h.holds) fun _ _ _ h => h)) fun _ _ _ h => h)⟩
/-- a comparison of two operands -/
structure Op3 (x y : Opd) (op : Cop) (ρ : Rho) (S : So) (Q : PQ Bool) : Prop where
  h : ∃ dx dy v, x.get ρ = some dx ∧ y.get ρ = some dy ∧ cmpD op dx dy = some v ∧ Q v ρ S
theorem op3_ {x y : Opd} {op : Cop} {q : Bool} {Q : PQ Bool} (h1 : Gt x ρ dx) (h2 : Gt y ρ dy) (h : cmpD op dx dy = some q) (hq : Q q ρ S) : Op3 x y op ρ S Q := ⟨dx, dy, q, h1.h, h2.h, h, hq⟩
theorem wb_cmp {op : Cop} {Q : PQ Bool} (h : WO C a ρ S (fun x ρ S => WO C b ρ S (fun y ρ S => Op3 x y op ρ S Q) R) R) : WB C (.cmp op a b) ρ S Q R := ⟨by
  rw [ev]
  unfold tru
  refine Rs.holds_bind (Rs.holds_bind (Rs.holds_mono h.h (fun x ρ S h => Rs.holds_bind (Rs.holds_mono h.h (fun y ρ S h => Rs.holds_bind ?_) fun _ _ _ h => h)) fun _ _ _ h => h))
  obtain ⟨dx, dy, v, h1, h2, h3, q⟩ := h.h
  rw [h1, Option.bind_some, h2, Option.bind_some, h3]
  exact q⟩
/-- a truth value is a value -/
theorem we_of_wb (t : tru (ev C e ρ S) = (ev C e ρ S).bind fun v ρ S => match v with | .fz (.bl b) => .ok b ρ S | _ => .no) (h : WB C e ρ S (fun b ρ S => Q (.fz (.bl b)) ρ S) R) : WE C e ρ S Q R := ⟨by
  have q := h.h
  rw [t] at q
  cases hh : ev C e ρ S with
  | ok v ρ1 S1 =>
    rw [hh] at q
    cases v with
    | ow xs => exact absurd q id
    | fz d =>
      cases d with
      | bl b => exact q
      | _ => exact absurd q id
  | rs x ρ1 S1 => rw [hh] at q; exact q
  | no => rw [hh] at q; exact q⟩
theorem we_cmp {op : Cop} (h : WB C (.cmp op a b) ρ S (fun b ρ S => Q (.fz (.bl b)) ρ S) R) : WE C (.cmp op a b) ρ S Q R := we_of_wb rfl h
theorem we_not (h : WB C (.not a) ρ S (fun b ρ S => Q (.fz (.bl b)) ρ S) R) : WE C (.not a) ρ S Q R := we_of_wb rfl h
theorem we_isi {ts : List Ty} (h : WB C (.isi ts a) ρ S (fun b ρ S => Q (.fz (.bl b)) ρ S) R) : WE C (.isi ts a) ρ S Q R := we_of_wb rfl h
theorem we_and (h : WB C (.and a b) ρ S (fun b ρ S => Q (.fz (.bl b)) ρ S) R) : WE C (.and a b) ρ S Q R := we_of_wb rfl h
theorem we_or (h : WB C (.or a b) ρ S (fun b ρ S => Q (.fz (.bl b)) ρ S) R) : WE C (.or a b) ρ S Q R := we_of_wb rfl h
theorem we_chn {op op2 : Cop} (h : WB C (.chn op op2 a b c) ρ S (fun b ρ S => Q (.fz (.bl b)) ρ S) R) : WE C (.chn op op2 a b c) ρ S Q R := we_of_wb rfl h
/-- any value as a truth value -/
theorem wb_of {Q : PQ Bool} (h : WE C e ρ S (fun v ρ S => ∃ b, v = .fz (.bl b) ∧ Q b ρ S) R) : WB C e ρ S Q R := ⟨by
  unfold tru
  refine Rs.holds_bind (Rs.holds_mono h.h (fun v ρ S h => ?_) fun _ _ _ h => h)
  obtain ⟨b, rfl, q⟩ := h
  exact q⟩
theorem bl_ {Q : Bool → Prop} {q : Bool} (h : Q q) : ∃ b, Vl.fz (.bl q) = .fz (.bl b) ∧ Q b := ⟨q, rfl, h⟩
theorem wb_bl {Q : PQ Bool} {q : Bool} (h : Q q ρ S) : WB C (.bl q) ρ S Q R := ⟨by rw [ev]; exact h⟩
theorem wb_not {Q : PQ Bool} (h : WB C a ρ S (fun b ρ S => Q (!b) ρ S) R) : WB C (.not a) ρ S Q R := ⟨by
  rw [ev]
  unfold tru vbool
  exact Rs.holds_bind (Rs.holds_bind (Rs.holds_mono h.h (fun v ρ S h => h) fun _ _ _ h => h))⟩
/-- the two ways -/
structure Or2 (b : Bool) (P N : Prop) : Prop where
  t : b = true → P
  f : b = false → N
theorem or2_t {P N : Prop} (h : P) : Or2 true P N := ⟨fun _ => h, fun h => (nomatch h)⟩
theorem or2_f {P N : Prop} (h : N) : Or2 false P N := ⟨fun h => (nomatch h), fun _ => h⟩
theorem or2_d {p : Prop} {_ : Decidable p} {P N : Prop} (h : p → P) (h2 : ¬ p → N) : Or2 (decide p) P N := ⟨fun q => h (of_decide_eq_true q), fun q => h2 (of_decide_eq_false q)⟩
theorem or2_r {α : Type} {a : α} {_ : Decidable (a = a)} {P N : Prop} (h : P) : Or2 (decide (a = a)) P N := ⟨fun _ => h, fun q => absurd rfl (of_decide_eq_false q)⟩
theorem or2_n {b : Bool} {P N : Prop} (h : Or2 b N P) : Or2 (!b) P N := ⟨fun q => h.f (by cases b <;> simp_all), fun q => h.t (by cases b <;> simp_all)⟩
theorem wb_and {Q : PQ Bool} (h : WB C a ρ S (fun q ρ S => Or2 q (WB C b ρ S Q R) (Q false ρ S)) R) : WB C (.and a b) ρ S Q R := ⟨by
  rw [ev]
  unfold tru
  refine Rs.holds_bind (Rs.holds_bind (Rs.holds_mono h.h (fun v ρ S h => ?_) fun _ _ _ h => h))
  cases v with
  | true =>
    have q := (h.t rfl).h
    unfold tru at q
    rw [if_pos rfl]
    cases hh : ev C b ρ S with
    | ok v ρ1 S1 => rw [hh] at q; exact q
    | rs x ρ1 S1 => rw [hh] at q; exact q
    | no => rw [hh] at q; exact q
  | false => exact h.f rfl⟩
theorem wb_or {Q : PQ Bool} (h : WB C a ρ S (fun q ρ S => Or2 q (Q true ρ S) (WB C b ρ S Q R)) R) : WB C (.or a b) ρ S Q R := ⟨by
  rw [ev]
  unfold tru
  refine Rs.holds_bind (Rs.holds_bind (Rs.holds_mono h.h (fun v ρ S h => ?_) fun _ _ _ h => h))
  cases v with
  | false =>
    have q := (h.f rfl).h
    unfold tru at q
    rw [if_neg Bool.false_ne_true]
    cases hh : ev C b ρ S with
    | ok v ρ1 S1 => rw [hh] at q; exact q
    | rs x ρ1 S1 => rw [hh] at q; exact q
    | no => rw [hh] at q; exact q
  | true => exact h.t rfl⟩
theorem wb_chn {op op2 : Cop} {Q : PQ Bool} (h : WO C a ρ S (fun x ρ S => WO C b ρ S (fun y ρ S => Op3 x y op ρ S fun q ρ S => Or2 q (WO C c ρ S (fun z ρ S => Op3 y z op2 ρ S Q) R) (Q false ρ S)) R) R) : WB C (.chn op op2 a b c) ρ S Q R := ⟨by
  rw [ev]
  unfold tru
  refine Rs.holds_bind (Rs.holds_bind (Rs.holds_mono h.h (fun x ρ S h => Rs.holds_bind (Rs.holds_mono h.h (fun y ρ S h => Rs.holds_bind ?_) fun _ _ _ h => h)) fun _ _ _ h => h))
  obtain ⟨dx, dy, v, h1, h2, h3, q⟩ := h.h
  rw [h1, Option.bind_some, h2, Option.bind_some, h3]
  cases v with
  | false => exact q.f rfl
  | true =>
    refine Rs.holds_bind (Rs.holds_mono (q.t rfl).h (fun z ρ S h => Rs.holds_bind ?_) fun _ _ _ h => h)
    obtain ⟨dx, dy, v, h1, h2, h3, q⟩ := h.h
    rw [h1, Option.bind_some, h2, Option.bind_some, h3]
    exact q⟩
theorem we_neg (h : WE C a ρ S (fun v ρ S => ∃ i : Int, v = .fz (.int i) ∧ Q (.fz (.int (-i))) ρ S) R) : WE C (.neg a) ρ S Q R := ⟨by
  rw [ev]
  refine Rs.holds_bind (Rs.holds_mono h.h (fun v ρ S h => ?_) fun _ _ _ h => h)
  obtain ⟨b, rfl, q⟩ := h
  exact q⟩
theorem we_ife (h : WB C c ρ S (fun q ρ S => Or2 q (WE C a ρ S Q R) (WE C b ρ S Q R)) R) : WE C (.ife c a b) ρ S Q R := ⟨by
  rw [ev]
  refine Rs.holds_bind (Rs.holds_mono h.h (fun v ρ S h => ?_) fun _ _ _ h => h)
  cases v with
  | true => exact (h.t rfl).h
  | false => exact (h.f rfl).h⟩
theorem wp_non {Q : PQ (Option Int)} (q : Q none ρ S) : WP C .non ρ S Q R := ⟨q⟩
theorem wp_int {Q : PQ (Option Int)} (hn : e ≠ .non) (h : WE C e ρ S (fun v ρ S => ∃ i : Int, v = .fz (.int i) ∧ Q (some i) ρ S) R) : WP C e ρ S Q R := ⟨by
  have q : part e ρ S (ev C e ρ S) = (ev C e ρ S).bind fun v ρ S => match v with
    | .fz (.int i) => .ok (some i) ρ S
    | _ => .no := by
    cases e <;> first | rfl | exact absurd rfl hn
  rw [q]
  refine Rs.holds_bind (Rs.holds_mono h.h (fun v ρ S h => ?_) fun _ _ _ h => h)
  obtain ⟨b, rfl, q⟩ := h
  exact q⟩
theorem int_ {Q : Int → Prop} {i : Int} (h : Q i) : ∃ j : Int, Vl.fz (.int i) = .fz (.int j) ∧ Q j := ⟨i, rfl, h⟩
theorem we_sl (h : WO C a ρ S (fun x ρ S => WP C b ρ S (fun l ρ S => WP C c ρ S (fun h ρ S => Op1 x (fun x => slD x l h) ρ S Q) R) R) R) : WE C (.sl a b c) ρ S Q R := ⟨by
  rw [ev]
  exact Rs.holds_bind (Rs.holds_mono h.h (fun x ρ S h => Rs.holds_bind (Rs.holds_mono h.h (fun y ρ S h => Rs.holds_bind (Rs.holds_mono h.h (fun z ρ S h => h.holds) fun _ _ _ h => h)) fun _ _ _ h => h)) fun _ _ _ h => h)⟩
theorem we_rev (h : WO C a ρ S (fun x ρ S => Op1 x revD ρ S Q) R) : WE C (.rev a) ρ S Q R := ⟨by
  rw [ev]
  exact Rs.holds_bind (Rs.holds_mono h.h (fun x ρ S h => h.holds) fun _ _ _ h => h)⟩
theorem we_b1 {o : B1} (h : WO C a ρ S (fun x ρ S => Op1 x (b1D o) ρ S Q) R) : WE C (.b1 o a) ρ S Q R := ⟨by
  rw [ev]
  exact Rs.holds_bind (Rs.holds_mono h.h (fun x ρ S h => h.holds) fun _ _ _ h => h)⟩
theorem wb_b1 {o : B1} {Q : PQ Bool} (h : WE C (.b1 o a) ρ S (fun v ρ S => ∃ b, v = .fz (.bl b) ∧ Q b ρ S) R) : WB C (.b1 o a) ρ S Q R := wb_of h
theorem we_b2 {o : B2} (h : WE C a ρ S (fun x ρ S => WE C b ρ S (fun y ρ S => ∃ v, b2D o x.d y.d = some v ∧ Q v ρ S) R) R) : WE C (.b2 o a b) ρ S Q R := ⟨by
  rw [ev]
  refine Rs.holds_bind (Rs.holds_mono h.h (fun x ρ S h => Rs.holds_bind (Rs.holds_mono h.h (fun y ρ S h => ?_) fun _ _ _ h => h)) fun _ _ _ h => h)
  obtain ⟨v, h1, q⟩ := h
  exact holds_lift h1 q⟩
theorem wb_isi {ts : List Ty} {Q : PQ Bool} (h : WO C a ρ S (fun x ρ S => ∃ d q, x.get ρ = some d ∧ isaD ts d = some q ∧ Q q ρ S) R) : WB C (.isi ts a) ρ S Q R := ⟨by
  rw [ev]
  unfold tru
  refine Rs.holds_bind (Rs.holds_bind (Rs.holds_mono h.h (fun x ρ S h => Rs.holds_bind ?_) fun _ _ _ h => h))
  obtain ⟨d, q, h1, h2, h3⟩ := h
  rw [h1, Option.bind_some, h2]
  exact h3⟩
theorem we_trng (h : WL C es ρ S (fun ds ρ S => ∃ xs, rng? (2 ^ 62) ds = some xs ∧ xs.length ≤ lim ∧ Q (.fz (.tup xs)) ρ S) R) : WE C (.trng es) ρ S Q R := ⟨by
  rw [ev]
  refine Rs.holds_bind (Rs.holds_mono h.h (fun x ρ S h => ?_) fun _ _ _ h => h)
  obtain ⟨xs, h1, h2, q⟩ := h
  rw [h1]
  refine Rs.holds_bind ?_
  show (if xs.length ≤ lim then _ else _ : Rs Vl).holds Q R
  rw [if_pos h2]
  exact q⟩
theorem we_lrng (h : WL C es ρ S (fun ds ρ S => ∃ xs, rng? (2 ^ 62) ds = some xs ∧ xs.length ≤ lim ∧ Q (.ow xs) ρ S) R) : WE C (.lrng es) ρ S Q R := ⟨by
  rw [ev]
  refine Rs.holds_bind (Rs.holds_mono h.h (fun x ρ S h => ?_) fun _ _ _ h => h)
  obtain ⟨xs, h1, h2, q⟩ := h
  rw [h1]
  refine Rs.holds_bind ?_
  show (if xs.length ≤ lim then _ else _ : Rs Vl).holds Q R
  rw [if_pos h2]
  exact q⟩
theorem we_index (h : WO C a ρ S (fun x ρ S => ∃ t, ((x.get ρ).bind isSq) = some t ∧ WE C b ρ S (fun y ρ S => ∃ d v, x.get ρ = some d ∧ idxD t d y.d = some v ∧ Q v ρ S) R) R) : WE C (.index a b) ρ S Q R := ⟨by
  rw [ev]
  refine Rs.holds_bind (Rs.holds_mono h.h (fun x ρ S h => ?_) fun _ _ _ h => h)
  obtain ⟨t, h1, h⟩ := h
  rw [h1]
  refine Rs.holds_bind ?_
  refine Rs.holds_bind (Rs.holds_mono h.h (fun y ρ S h => ?_) fun _ _ _ h => h)
  obtain ⟨d, v, h1, h2, q⟩ := h
  rw [h1, Option.bind_some, h2]
  exact q⟩
theorem we_pop {n : Nat} {xs : List D} (h0 : isOw ρ i = true) (h : WE C e ρ S (fun v ρ S => ∃ j xs n d ρ1, ow? ρ i = some xs ∧ v = .fz (.int j) ∧ ixN xs.length j = some n ∧ xs[n]? = some d ∧ ρ.set i (some (.ow (xs.eraseIdx n))) = ρ1 ∧ Q (.fz d) ρ1 S) R) : WE C (.pop i e) ρ S Q R := ⟨by
  rw [ev, if_pos h0]
  refine Rs.holds_bind (Rs.holds_mono h.h (fun y ρ S h => ?_) fun _ _ _ h => h)
  obtain ⟨j, xs, n, d, ρ1, h1, h2, h3, h4, h5, q⟩ := h
  subst h2
  refine Rs.holds_bind (holds_lift h1 (Rs.holds_bind (holds_lift (show int? (.int j) = some j from rfl) (Rs.holds_bind (holds_lift h3 (Rs.holds_bind (holds_lift h4 ?_)))))))
  show Q _ _ _
  rw [h5]
  exact q⟩
theorem we_pop0 {xs : List D} (h1 : ρ[i]? = some (some (.ow xs))) (h2 : xs[xs.length - 1]? = some d) (p : Put ρ i (some (.ow xs.dropLast)) ρ1) (q : Q (.fz d) ρ1 S) : WE C (.pop0 i) ρ S Q R := ⟨by
  rw [ev]
  refine Rs.holds_bind (holds_lift (show ow? ρ i = some xs by unfold ow?; rw [h1]) (Rs.holds_bind (holds_lift h2 ?_)))
  show Q _ _ _
  rw [p.h]
  exact q⟩
theorem we_fld {f : Str} (h : WE C a ρ S (fun v ρ S => ∃ d, v.d.fldD f = some d ∧ Q (.fz d) ρ S) R) : WE C (.fld a f) ρ S Q R := ⟨by
  rw [ev]
  refine Rs.holds_bind (Rs.holds_mono h.h (fun y ρ S h => ?_) fun _ _ _ h => h)
  obtain ⟨d, h1, q⟩ := h
  exact Rs.holds_bind (holds_lift h1 q)⟩
/-! ### calls -/
variable {Γ : Tab} {fuel k n : Nat}
theorem we_call (h : WL (CC Γ fuel k) es ρ S (fun ds ρ S => WC Γ fuel k (.f n) ds S (fun v S => Q v ρ S) (fun x S => R x ρ S)) R) : WE (CC Γ fuel k) (.call n es) ρ S Q R := ⟨by
  rw [ev]
  refine Rs.holds_bind (Rs.holds_mono h.h (fun ds ρ S h => ?_) fun _ _ _ h => h)
  have q := h.h
  rw [CC_eq]
  show ((callD Γ fuel k (.f n) ds S).rs' ρ).holds Q R
  cases hh : callD Γ fuel k (.f n) ds S <;> (rw [hh] at q; exact q)⟩
theorem WC.of {f : Fn} {ds : List D} {v : Vl} {S S1 : So} {Q : Vl → So → Prop} {R : Exc → So → Prop} (h : callD Γ fuel k f ds S = .ok v S1) (q : Q v S1) : WC Γ fuel k f ds S Q R := ⟨by rw [h]; exact q⟩
/-- no exception -/
def nX : Exc → So → Prop := fun _ _ => False
theorem WC.ok {f : Fn} {ds : List D} {S : So} {Q : Vl → So → Prop} (h : WC Γ fuel k f ds S Q nX) : ∃ v S1, callD Γ fuel k f ds S = .ok v S1 ∧ Q v S1 := by
  have q := h.h
  cases hh : callD Γ fuel k f ds S with
  | ok v S1 => rw [hh] at q; exact ⟨v, S1, rfl, q⟩
  | rs x S1 => rw [hh] at q; exact q.elim
  | no => rw [hh] at q; exact q.elim
theorem WC.mono {f : Fn} {ds : List D} {S : So} {Q Q' : Vl → So → Prop} {R R' : Exc → So → Prop} (h : WC Γ fuel k f ds S Q R) (hq : ∀ v S, Q v S → Q' v S) (hr : ∀ x S, R x S → R' x S) : WC Γ fuel k f ds S Q' R' := ⟨by
  have q := h.h
  cases hh : callD Γ fuel k f ds S with
  | ok v S1 => rw [hh] at q; exact hq _ _ q
  | rs x S1 => rw [hh] at q; exact hr _ _ q
  | no => rw [hh] at q; exact q⟩
/-- a call that hands back, at any goal -/
theorem WC.use {f : Fn} {ds : List D} {S : So} {Q Q' : Vl → So → Prop} {R : Exc → So → Prop} (h : WC Γ fuel k f ds S Q nX) (hq : ∀ v S, Q v S → Q' v S) : WC Γ fuel k f ds S Q' R := h.mono hq fun _ _ h => h.elim
@[irreducible] def fQ (Q : Vl → So → Prop) (R : Exc → So → Prop) : Rst → Prop
  | .nx _ S => Q (.fz .non) S
  | .rt v _ S => Q v S
  | .rs x _ S => R x S
  | _ => False
theorem wc_fd {f : Fn} {fd : Fd} {ds : List D} {S : So} {Q : Vl → So → Prop} {R : Exc → So → Prop} (ht : Γ f = some (.fd fd)) (hl : ds.length = fd.np) (h : WSS (CC Γ fuel k) fd.body (ini fd.ns ds) S (fQ Q R)) : WC Γ fuel (k + 1) f ds S Q R := ⟨by
  rw [callD, ht]
  show (if ds.length = fd.np then fin (exs ⟨callD Γ fuel k, fuel⟩ fd.body (ini fd.ns ds) S) else .no).holds Q R
  rw [if_pos hl, ← CC_eq]
  have q := h.h
  unfold fQ at q
  cases hh : exs (CC Γ fuel k) fd.body (ini fd.ns ds) S <;> (rw [hh] at q; exact q)⟩
theorem fq_rt {v : Vl} {Q : Vl → So → Prop} {R : Exc → So → Prop} (q : Q v S) : fQ Q R (.rt v ρ S) := by unfold fQ; exact q
theorem fq_nx {Q : Vl → So → Prop} {R : Exc → So → Prop} (q : Q (.fz .non) S) : fQ Q R (.nx ρ S) := by unfold fQ; exact q
/-! ### statements -/
variable {s : VI.S} {ss p m : List VI.S} {QS : Rst → Prop}
/-- and on to the next -/
@[irreducible] def sq (C : Cal) (ss : List VI.S) (Q : Rst → Prop) : Rst → Prop
  | .nx ρ S => WSS C ss ρ S Q
  | r => Q r
theorem sq_nx (h : WSS C ss ρ S QS) : sq C ss QS (.nx ρ S) := by unfold sq; exact h
theorem sq_rt (h : QS (.rt v ρ S)) : sq C ss QS (.rt v ρ S) := by unfold sq; exact h
theorem sq_bk (h : QS (.bk ρ S)) : sq C ss QS (.bk ρ S) := by unfold sq; exact h
theorem sq_ct (h : QS (.ct ρ S)) : sq C ss QS (.ct ρ S) := by unfold sq; exact h
theorem sq_rs {x : Exc} (h : QS (.rs x ρ S)) : sq C ss QS (.rs x ρ S) := by unfold sq; exact h
theorem wss_nil (h : QS (.nx ρ S)) : WSS C [] ρ S QS := ⟨by rw [exs]; exact h⟩
theorem wss_cons (h : WS C s ρ S (sq C ss QS)) : WSS C (s :: ss) ρ S QS := ⟨by
  rw [exs]
  refine Rst.holds_then (Rst.holds_mono h.h fun r h => ?_)
  unfold sq at h
  cases r with
  | nx ρ S => exact WSS.h h
  | _ => exact h⟩
theorem WS.st {α : Type} {r : Rs α} {f : α → Rho → So → Rst} (h : r.holds (fun a ρ S => (f a ρ S).holds QS) (xR QS)) : (r.st f).holds QS := Rs.holds_st h
theorem Rst.h_nx {QS : Rst → Prop} (h : QS (.nx ρ S)) : (Rst.nx ρ S).holds QS := h
theorem ws_asg (h : WE C e ρ S (fun v ρ S => ∃ ρ1, ρ.set i (some v) = ρ1 ∧ QS (.nx ρ1 S)) (xR QS)) : WS C (.asg (.nm i) e) ρ S QS := ⟨by
  rw [ex]
  refine Rs.holds_st (Rs.holds_mono h.h (fun v ρ S h => ?_) fun _ _ _ h => h)
  obtain ⟨ρ1, h1, q⟩ := h
  refine Rs.holds_st (holds_lift (show asgV (.nm i) v ρ = some ρ1 by rw [← h1]; rfl) q)⟩
theorem put_ {Q : Rho → Prop} {v : Sl} (p : Put ρ i v ρ1) (q : Q ρ1) : ∃ ρ1, ρ.set i v = ρ1 ∧ Q ρ1 := ⟨ρ1, p.h, q⟩
theorem ws_asgT {is : List Nat} (h : WE C e ρ S (fun v ρ S => ∃ ρ1, tgD (.tp is) v.d ρ = some ρ1 ∧ QS (.nx ρ1 S)) (xR QS)) : WS C (.asg (.tp is) e) ρ S QS := ⟨by
  rw [ex]
  refine Rs.holds_st (Rs.holds_mono h.h (fun v ρ S h => ?_) fun _ _ _ h => h)
  obtain ⟨ρ1, h1, q⟩ := h
  exact Rs.holds_st (holds_lift (show asgV (.tp is) v ρ = some ρ1 from h1) q)⟩
theorem ws_par {is : List Nat} (h : WV C es ρ S (fun vs ρ S => ∃ ρ1, setVs is vs ρ = some ρ1 ∧ QS (.nx ρ1 S)) (xR QS)) : WS C (.par is es) ρ S QS := ⟨by
  rw [ex]
  refine Rs.holds_st (Rs.holds_mono h.h (fun v ρ S h => ?_) fun _ _ _ h => h)
  obtain ⟨ρ1, h1, q⟩ := h
  exact Rs.holds_st (holds_lift h1 q)⟩
theorem ws_aug {op : Bop} (h0 : isOw ρ i = false) (h1 : At ρ i d) (h : WE C e ρ S (fun v ρ S => ∃ x z ρ1, slD? ρ i = some x ∧ augD op x v.d = some z ∧ ρ.set i (some (.fz z)) = ρ1 ∧ QS (.nx ρ1 S)) (xR QS)) : WS C (.aug i op e) ρ S QS := ⟨by
  rw [ex, h0, if_neg Bool.false_ne_true, h1.h]
  refine Rs.holds_st (Rs.holds_st (Rs.holds_mono h.h (fun v ρ S h => ?_) fun _ _ _ h => h))
  obtain ⟨x, z, ρ1, h1, h2, h3, q⟩ := h
  refine Rs.holds_st (holds_lift (show ((slD? ρ i).bind fun x => augD op x v.d) = some z by rw [h1]; exact h2) ?_)
  show QS (.nx (ρ.set i _) S)
  rw [h3]
  exact q⟩
theorem ws_ite (h : WB C c ρ S (fun q ρ S => Or2 q (WSS C p ρ S QS) (WSS C m ρ S QS)) (xR QS)) : WS C (.ite c p m) ρ S QS := ⟨by
  rw [ex]
  refine Rs.holds_st (Rs.holds_mono h.h (fun v ρ S h => ?_) fun _ _ _ h => h)
  cases v with
  | true => exact (h.t rfl).h
  | false => exact (h.f rfl).h⟩
theorem ws_ret (hn : ∀ i, e ≠ .var i) (h : WE C e ρ S (fun v ρ S => QS (.rt v ρ S)) (xR QS)) : WS C (.ret e) ρ S QS := ⟨by
  have q : evR C e ρ S = ev C e ρ S := by
    unfold evR
    cases e <;> first | rfl | exact absurd rfl (hn _)
  rw [ex, q]
  exact Rs.holds_st h.h⟩
theorem ws_retV (h : ρ[i]? = some (some v)) (q : QS (.rt v ρ S)) : WS C (.ret (.var i)) ρ S QS := ⟨by
  have e : evR C (.var i) ρ S = .ok v ρ S := by
    show (match ρ[i]? with
      | some (some v) => Rs.ok v ρ S
      | _ => .no) = _
    rw [h]
  rw [ex, e]
  exact Rs.holds_st q⟩
theorem ws_retn (q : QS (.rt (.fz .non) ρ S)) : WS C .retn ρ S QS := ⟨by rw [ex]; exact q⟩
theorem ws_pss (q : QS (.nx ρ S)) : WS C .pss ρ S QS := ⟨by rw [ex]; exact q⟩
theorem ws_brk (q : QS (.bk ρ S)) : WS C .brk ρ S QS := ⟨by rw [ex]; exact q⟩
theorem ws_cnt (q : QS (.ct ρ S)) : WS C .cnt ρ S QS := ⟨by rw [ex]; exact q⟩
theorem ws_ex (h : WE C e ρ S (fun v ρ S => QS (.nx ρ S)) (xR QS)) : WS C (.ex e) ρ S QS := ⟨by
  rw [ex]
  exact Rs.holds_st h.h⟩
theorem ws_app (h0 : isOw ρ i = true) (h : WE C e ρ S (fun v ρ S => ∃ xs ρ1, ow? ρ i = some xs ∧ xs.length < lim ∧ ρ.set i (some (.ow (xs ++ [v.d]))) = ρ1 ∧ QS (.nx ρ1 S)) (xR QS)) : WS C (.app i e) ρ S QS := ⟨by
  rw [ex, if_pos h0]
  refine Rs.holds_st (Rs.holds_mono h.h (fun v ρ S h => ?_) fun _ _ _ h => h)
  obtain ⟨xs, ρ1, h1, h2, h3, q⟩ := h
  refine Rs.holds_st (holds_lift h1 ?_)
  show (if xs.length < lim then _ else _ : Rst).holds QS
  rw [if_pos h2, h3]
  exact q⟩
theorem ws_mov {j : Nat} {xs : List D} {ρ1 ρ2 : Rho} (h : ρ[j]? = some (some (.ow xs))) (p : Put ρ j none ρ1) (p2 : Put ρ1 i (some (.ow xs)) ρ2) (q : QS (.nx ρ2 S)) : WS C (.mov i j) ρ S QS := ⟨by
  have e : ex C (.mov i j) ρ S = .nx ((ρ.set j none).set i (some (.ow xs))) S := by
    rw [ex]
    show (match ρ[j]? with
      | some (some (.ow xs)) => Rst.nx ((ρ.set j none).set i (some (.ow xs))) S
      | _ => .no) = _
    rw [h]
  rw [e, p.h, p2.h]
  exact q⟩
theorem ws_ext (h0 : isOw ρ i = true) (h : WE C e ρ S (fun v ρ S => ∃ xs ys ρ1, ow? ρ i = some xs ∧ v.d = .lst ys ∧ xs.length + ys.length ≤ lim ∧ ρ.set i (some (.ow (xs ++ ys))) = ρ1 ∧ QS (.nx ρ1 S)) (xR QS)) : WS C (.ext i e) ρ S QS := ⟨by
  rw [ex, if_pos h0]
  refine Rs.holds_st (Rs.holds_mono h.h (fun v ρ S h => ?_) fun _ _ _ h => h)
  obtain ⟨xs, ys, ρ1, h1, h2, h3, h4, q⟩ := h
  refine Rs.holds_st (holds_lift h1 (Rs.holds_st (holds_lift (show lst? v.d = some ys by rw [h2]; rfl) ?_)))
  show (if xs.length + ys.length ≤ lim then _ else _ : Rst).holds QS
  rw [if_pos h3, h4]
  exact q⟩
theorem ws_sti (h : WE C e ρ S (fun v ρ S => isOw ρ i = true ∧ WE C a ρ S (fun j ρ S => ∃ xs n m ρ1, ow? ρ i = some xs ∧ j = .fz (.int n) ∧ ixN xs.length n = some m ∧ ρ.set i (some (.ow (xs.set m v.d))) = ρ1 ∧ QS (.nx ρ1 S)) (xR QS)) (xR QS)) : WS C (.sti i a e) ρ S QS := ⟨by
  rw [ex]
  refine Rs.holds_st (Rs.holds_mono h.h (fun v ρ S h => ?_) fun _ _ _ h => h)
  obtain ⟨h0, h⟩ := h
  rw [if_pos h0]
  refine Rs.holds_st (Rs.holds_mono h.h (fun j ρ S h => ?_) fun _ _ _ h => h)
  obtain ⟨xs, n, m, ρ1, h1, h2, h3, h4, q⟩ := h
  subst h2
  refine Rs.holds_st (holds_lift h1 (Rs.holds_st (holds_lift (show int? (.int n) = some n from rfl) (Rs.holds_st (holds_lift h3 ?_)))))
  show QS (.nx (ρ.set i _) S)
  rw [h4]
  exact q⟩
theorem ws_sw {j : Nat} (h : WL C es ρ S (fun ds ρ S => ∃ d1 d2, ds = [d1, d2] ∧ isOw ρ i = true ∧ WE C a ρ S (fun n ρ S => ∃ xs n' m ρ1, ow? ρ i = some xs ∧ n = .fz (.int n') ∧ ixN xs.length n' = some m ∧ ρ.set i (some (.ow (xs.set m d1))) = ρ1 ∧ isOw ρ1 j = true ∧
    WE C b ρ1 S (fun n ρ S => ∃ xs n' m ρ1, ow? ρ j = some xs ∧ n = .fz (.int n') ∧ ixN xs.length n' = some m ∧ ρ.set j (some (.ow (xs.set m d2))) = ρ1 ∧ QS (.nx ρ1 S)) (xR QS)) (xR QS)) (xR QS)) : WS C (.sw i a j b es) ρ S QS := ⟨by
  rw [ex]
  refine Rs.holds_st (Rs.holds_mono h.h (fun v ρ S h => ?_) fun _ _ _ h => h)
  obtain ⟨d1, d2, rfl, h0, h⟩ := h
  show (if isOw ρ i then _ else _ : Rst).holds QS
  rw [if_pos h0]
  refine Rs.holds_st (Rs.holds_mono h.h (fun n ρ S h => ?_) fun _ _ _ h => h)
  obtain ⟨xs, n', m, ρ1, h1, h2, h3, h4, h5, h⟩ := h
  subst h2
  refine Rs.holds_st (holds_lift h1 (Rs.holds_st (holds_lift (show int? (.int n') = some n' from rfl) (Rs.holds_st (holds_lift h3 ?_)))))
  rw [h4]
  show (if isOw ρ1 j then _ else _ : Rst).holds QS
  rw [if_pos h5]
  refine Rs.holds_st (Rs.holds_mono h.h (fun n ρ S h => ?_) fun _ _ _ h => h)
  obtain ⟨xs, n', m, ρ1, h1, h2, h3, h4, q⟩ := h
  subst h2
  refine Rs.holds_st (holds_lift h1 (Rs.holds_st (holds_lift (show int? (.int n') = some n' from rfl) (Rs.holds_st (holds_lift h3 ?_)))))
  show QS (.nx (ρ.set j _) S)
  rw [h4]
  exact q⟩
/-! ### loops -/
/-- behind a for's items -/
structure WFor (C : Cal) (t : Tg) (bd : List VI.S) (items : List D) (ρ : Rho) (S : So) (Q : Rst → Prop) : Prop where
  h : (forL t (exs C bd) items ρ S).holds Q
theorem ws_for {t : Tg} {kk : ItK} (h : WL C es ρ S (fun ds ρ S => ∃ items, itD kk ds = some items ∧ WFor C t p items ρ S QS) (xR QS)) : WS C (.for_ t kk es p) ρ S QS := ⟨by
  rw [ex]
  refine Rs.holds_st (Rs.holds_mono h.h (fun v ρ S h => ?_) fun _ _ _ h => h)
  obtain ⟨items, h1, h⟩ := h
  exact Rs.holds_st (holds_lift h1 h.h)⟩
/-- a turn's end -/
@[irreducible] def tq (K : Rho → So → Prop) (Q : Rst → Prop) : Rst → Prop
  | .nx ρ S => K ρ S
  | .ct ρ S => K ρ S
  | .bk ρ S => Q (.nx ρ S)
  | r => Q r
theorem tq_nx {K : Rho → So → Prop} (h : K ρ S) : tq K QS (.nx ρ S) := by unfold tq; exact h
theorem tq_ct {K : Rho → So → Prop} (h : K ρ S) : tq K QS (.ct ρ S) := by unfold tq; exact h
theorem tq_bk {K : Rho → So → Prop} (h : QS (.nx ρ S)) : tq K QS (.bk ρ S) := by unfold tq; exact h
theorem tq_rt {K : Rho → So → Prop} (h : QS (.rt v ρ S)) : tq K QS (.rt v ρ S) := by unfold tq; exact h
theorem tq_rs {K : Rho → So → Prop} {x : Exc} (h : QS (.rs x ρ S)) : tq K QS (.rs x ρ S) := by unfold tq; exact h
theorem wf_nil {t : Tg} (h : QS (.nx ρ S)) : WFor C t p [] ρ S QS := ⟨by rw [forL]; exact h⟩
theorem wf_consT {t : Tg} {x : D} {xs : List D} (h1 : tgD t x ρ = some ρ1) (h : WSS C p ρ1 S (tq (fun ρ S => WFor C t p xs ρ S QS) QS)) : WFor C t p (x :: xs) ρ S QS := ⟨by
  rw [forL]
  refine Rs.holds_st (holds_lift h1 (Rst.holds_turn (Rst.holds_mono h.h fun r h => ?_)))
  unfold tq at h
  cases r with
  | nx ρ S => exact WFor.h h
  | ct ρ S => exact WFor.h h
  | _ => exact h⟩
theorem wf_cons {x : D} {xs : List D} (h1 : Put ρ i (some (.fz x)) ρ1) (h : WSS C p ρ1 S (tq (fun ρ S => WFor C (.nm i) p xs ρ S QS) QS)) : WFor C (.nm i) p (x :: xs) ρ S QS := wf_consT (by rw [← h1.h]; rfl) h
/-- a for with what holds behind each turn: I of the items done -/
theorem wf_ind {t : Tg} (I : List D → Rho → So → Prop) (items : List D) (h0 : I [] ρ S) (hs : ∀ done d rest ρ S, items = done ++ d :: rest → I done ρ S → ∃ ρ1, tgD t d ρ = some ρ1 ∧ WSS C p ρ1 S (tq (I (done ++ [d])) QS)) (he : ∀ ρ S, I items ρ S → QS (.nx ρ S)) : WFor C t p items ρ S QS := by
  suffices g : ∀ (rest done : List D) (ρ : Rho) (S : So), items = done ++ rest → I done ρ S → WFor C t p rest ρ S QS from g items [] ρ S rfl h0
  intro rest
  induction rest with
  | nil => exact fun done ρ S e h => wf_nil (he ρ S (by rw [e, List.append_nil]; exact h))
  | cons d rest ih =>
    intro done ρ S e h
    obtain ⟨ρ1, h1, h2⟩ := hs done d rest ρ S e h
    refine wf_consT h1 ⟨Rst.holds_mono h2.h fun r h => ?_⟩
    unfold tq at h ⊢
    cases r with
    | nx ρ S => exact ih (done ++ [d]) ρ S (by rw [e, List.append_assoc]; rfl) h
    | ct ρ S => exact ih (done ++ [d]) ρ S (by rw [e, List.append_assoc]; rfl) h
    | _ => exact h
/-- behind a while -/
structure WW (C : Cal) (c : E) (bd : List VI.S) (n : Nat) (ρ : Rho) (S : So) (Q : Rst → Prop) : Prop where
  h : (whlF (fun ρ S => tru (ev C c ρ S)) (exs C bd) n ρ S).holds Q
theorem ws_whl (h : WW (CC Γ fuel k) c p fuel ρ S QS) : WS (CC Γ fuel k) (.whl c p) ρ S QS := ⟨by
  rw [ex]
  have e : (CC Γ fuel k).fuel = fuel := by rw [CC_eq]
  rw [e]
  exact h.h⟩
theorem ww_turn {n : Nat} (h : WB C c ρ S (fun q ρ S => Or2 q (WSS C p ρ S (tq (fun ρ S => WW C c p n ρ S QS) QS)) (QS (.nx ρ S))) (xR QS)) : WW C c p (n + 1) ρ S QS := ⟨by
  rw [whlF]
  refine Rs.holds_st (Rs.holds_mono h.h (fun v ρ S h => ?_) fun _ _ _ h => h)
  cases v with
  | true =>
    refine Rst.holds_turn (Rst.holds_mono (h.t rfl).h fun r h => ?_)
    unfold tq at h
    cases r with
    | nx ρ S => exact WW.h h
    | ct ρ S => exact WW.h h
    | _ => exact h
  | false => exact h.f rfl⟩
/-- a while with what holds ahead of each test and a measure that falls -/
theorem ww_ind (I : Rho → So → Prop) (M : Rho → So → Nat) (h0 : I ρ S) {n : Nat} (hn : M ρ S < n)
    (hs : ∀ ρ S, I ρ S → WB C c ρ S (fun q ρ1 S1 => Or2 q (WSS C p ρ1 S1 (tq (fun ρ2 S2 => I ρ2 S2 ∧ M ρ2 S2 < M ρ S) QS)) (QS (.nx ρ1 S1))) (xR QS)) : WW C c p n ρ S QS := by
  induction n generalizing ρ S with
  | zero => exact absurd hn (Nat.not_lt_zero _)
  | succ n ih =>
    refine ww_turn ⟨Rs.holds_mono (hs ρ S h0).h (fun q ρ1 S1 h => ⟨fun hq => ⟨Rst.holds_mono (h.t hq).h fun r h => ?_⟩, h.f⟩) fun _ _ _ h => h⟩
    unfold tq at h ⊢
    cases r with
    | nx ρ2 S2 => exact ih h.1 (Nat.lt_of_lt_of_le h.2 (Nat.le_of_lt_succ hn))
    | ct ρ2 S2 => exact ih h.1 (Nat.lt_of_lt_of_le h.2 (Nat.le_of_lt_succ hn))
    | _ => exact h
/-! ### comprehensions -/
structure WT (C : Cal) (t : Tg) (mc me : E) (d : D) (ρ : Rho) (S : So) (Q : PQ (Option D)) (R : PQ Exc) : Prop where
  h : (trn C t mc me d ρ S).holds Q R
theorem wt_ {t : Tg} {mc me : E} {Q : PQ (Option D)} (h1 : tgD t d ρ = some ρ1) (h : WB C mc ρ1 S (fun q ρ S => Or2 q (WE C me ρ S (fun v ρ S => Q (some v.d) ρ S) R) (Q none ρ S)) R) : WT C t mc me d ρ S Q R := ⟨by
  have e : trn C t mc me d ρ S = (lift (tgD t d ρ) ρ S).bind fun ρ1 _ S => (tru (ev C mc ρ1 S)).bind fun q ρ S => if q then (ev C me ρ S).bind fun v ρ S => .ok (some v.d) ρ S else .ok none ρ S := rfl
  rw [e]
  refine Rs.holds_bind (holds_lift h1 (Rs.holds_bind (Rs.holds_mono h.h (fun q ρ S h => ?_) fun _ _ _ h => h)))
  cases q with
  | true =>
    show (if true = true then _ else _ : Rs (Option D)).holds Q R
    rw [if_pos rfl]
    exact Rs.holds_bind (h.t rfl).h
  | false => exact h.f rfl⟩
/-- a comprehension with what holds behind each turn: I of the items done and of what is found; the slots own are the comprehension's -/
def noX : PQ Exc := fun _ _ _ => False
theorem cmpl_ind {tn : D → Rho → So → Rs (Option D)} {own : List Nat} (I : List D → List D → Rho → So → Prop) (items : List D) (hl : items.length ≤ lim) {Q : PQ (List D)} (h0 : I [] [] ρ S)
    (hs : ∀ done d rest acc ρ S, items = done ++ d :: rest → I done acc ρ S → (tn d (wipeR ρ own) S).holds (fun o ρ S => I (done ++ [d]) (acc ++ o.toList) ρ S) noX) (he : ∀ acc ρ S, I items acc ρ S → Q acc ρ S) : (cmpl tn own items [] ρ S).holds Q R := by
  suffices g : ∀ (rest done acc : List D) (ρ : Rho) (S : So), items = done ++ rest → acc.length ≤ done.length → I done acc ρ S → (cmpl tn own rest acc ρ S).holds Q R from g items [] [] ρ S rfl (Nat.le_refl _) h0
  intro rest
  induction rest with
  | nil => exact fun done acc ρ S e _ h => by rw [cmpl]; exact he acc ρ S (by rw [e, List.append_nil]; exact h)
  | cons d rest ih =>
    intro done acc ρ S e hle h
    have h1 := hs done d rest acc ρ S e h
    have hz : done.length + (rest.length + 1) ≤ lim := by rw [e, List.length_append, List.length_cons] at hl; exact hl
    rw [cmpl]
    cases hh : tn d (wipeR ρ own) S with
    | ok o ρ1 S1 =>
      rw [hh] at h1
      cases o with
      | none => exact ih (done ++ [d]) acc ρ1 S1 (by rw [e, List.append_assoc]; rfl) (by rw [List.length_append]; omega) (by have q : I (done ++ [d]) (acc ++ []) ρ1 S1 := h1; rw [List.append_nil] at q; exact q)
      | some x =>
        show (if acc.length < lim then cmpl tn own rest (acc ++ [x]) ρ1 S1 else .no).holds Q R
        rw [if_pos (by omega)]
        exact ih (done ++ [d]) (acc ++ [x]) ρ1 S1 (by rw [e, List.append_assoc]; rfl) (by rw [List.length_append, List.length_append, List.length_singleton, List.length_singleton]; omega) h1
    | rs x ρ1 S1 => rw [hh] at h1; exact h1.elim
    | no => rw [hh] at h1; exact h1.elim
/-- a comprehension, turn by turn -/
theorem we_comp {t : Tg} {mc me : E} {kk : ItK} {own : List Nat} (I : Rho → So → List D → List D → Rho → So → Prop) (h : WL C es ρ S (fun ds ρ1 S1 => ∃ items, itD kk ds = some items ∧ items.length ≤ lim ∧ I ρ1 S1 [] [] ρ1 S1 ∧
    (∀ done d rest acc ρ2 S2, items = done ++ d :: rest → I ρ1 S1 done acc ρ2 S2 → WT C t mc me d (wipeR ρ2 own) S2 (fun o ρ S => I ρ1 S1 (done ++ [d]) (acc ++ o.toList) ρ S) noX) ∧ (∀ acc ρ' S', I ρ1 S1 items acc ρ' S' → Q (.ow acc) (backR ρ1 ρ' own) S')) R) :
    WE C (.comp me t kk es mc own) ρ S Q R := ⟨by
  rw [ev]
  refine Rs.holds_bind (Rs.holds_mono h.h (fun ds ρ1 S1 h => ?_) fun _ _ _ h => h)
  obtain ⟨items, h1, h2, h3, h4, h5⟩ := h
  refine Rs.holds_bind (holds_lift h1 (Rs.holds_bind ?_))
  exact cmpl_ind (tn := trn C t mc me) (I ρ1 S1) items h2 h3 (fun done d rest acc ρ S e i => (h4 done d rest acc ρ S e i).h) fun acc ρ' S' i => h5 acc ρ' S' i⟩
/-- one whose turns are a function -/
theorem we_compF {t : Tg} {mc me : E} {kk : ItK} {own : List Nat} (f : D → Option D) (h : WL C es ρ S (fun ds ρ1 S1 => ∃ items, itD kk ds = some items ∧ items.length ≤ lim ∧
    (∀ d ∈ items, WT C t mc me d (wipeR ρ1 own) S1 (fun o ρ S => o = f d ∧ S = S1 ∧ wipeR ρ own = wipeR ρ1 own) noX) ∧ Q (.ow (items.filterMap f)) ρ1 S1) R) :
    WE C (.comp me t kk es mc own) ρ S Q R := by
  refine we_comp (fun ρ1 S1 done acc ρ2 S2 => acc = done.filterMap f ∧ wipeR ρ2 own = wipeR ρ1 own ∧ S2 = S1) ⟨Rs.holds_mono h.h (fun ds ρ1 S1 h => ?_) fun _ _ _ h => h⟩
  obtain ⟨items, h1, h2, h3, h4⟩ := h
  refine ⟨items, h1, h2, ⟨rfl, rfl, rfl⟩, fun done d rest acc ρ2 S2 e i => ?_, fun acc ρ' S' i => ?_⟩
  · obtain ⟨rfl, i2, rfl⟩ := i
    rw [i2]
    refine ⟨Rs.holds_mono (h3 d (by rw [e]; simp)).h (fun o ρ S h => ?_) fun _ _ _ h => h⟩
    obtain ⟨rfl, rfl, h5⟩ := h
    refine ⟨?_, h5, rfl⟩
    rw [List.filterMap_append]
    refine congrArg _ ?_
    show (f d).toList = _
    rw [List.filterMap_cons]
    cases f d <;> rfl
  · obtain ⟨rfl, i2, rfl⟩ := i
    rw [back_same i2]
    exact h4
/-! ### what single operations give -/
theorem d_fz {d : D} : (Vl.fz d).d = d := rfl
theorem d_ow {xs : List D} : (Vl.ow xs).d = .lst xs := rfl
theorem gt_vl {ρ : Rho} {d : D} : Gt (.vl d) ρ d := ⟨rfl⟩
theorem cut_le {α : Type} (xs : List α) (a b : Option Int) : (cut xs a b).length ≤ xs.length := by
  unfold cut
  rw [List.length_take, List.length_drop]
  omega
theorem lim_ {ds : List D} {P : Prop} (h : ds.length ≤ lim) (q : P) : ds.length ≤ lim ∧ P := ⟨h, q⟩
/-- an item of a list or tuple of small numbers, at a place told as an int -/
theorem ix_dnZ {l : List Nat} {z : Int} (n : Nat) (hz : z = n) (h : n < l.length) : ixD (.tup (dn l)) (.int z) = some (.fz (.int ((l.getD n 0 : Nat) : Int))) := by
  subst hz
  exact ix_dn h
theorem ix_dnT {l : List Nat} {z : Int} (h : 0 ≤ z ∧ z < (l.length : Nat)) : ixD (.tup (dn l)) (.int z) = some (.fz (.int ((l.getD z.toNat 0 : Nat) : Int))) := ix_dnZ z.toNat (by omega) (by omega)
theorem ix_dnL {l : List Nat} {z : Int} (h : 0 ≤ z ∧ z < (l.length : Nat)) : ixD (.lst (dn l)) (.int z) = some (.fz (.int ((l.getD z.toNat 0 : Nat) : Int))) := ix_dnT h
theorem rng_ex {ds xs : List D} {P : List D → Prop} (h : rng? (2 ^ 62) ds = some xs) (hl : xs.length ≤ lim) (q : P xs) : ∃ ys, rng? (2 ^ 62) ds = some ys ∧ ys.length ≤ lim ∧ P ys := ⟨xs, h, hl, q⟩
theorem it_ex {kk : ItK} {ds xs : List D} {P : List D → Prop} (h : itD kk ds = some xs) (q : P xs) : ∃ ys, itD kk ds = some ys ∧ P ys := ⟨xs, h, q⟩
theorem sets_ex {is : List Nat} {vs : List Vl} {ρ ρ1 : Rho} {P : Rho → Prop} (h : setVs is vs ρ = some ρ1) (q : P ρ1) : ∃ ρ1, setVs is vs ρ = some ρ1 ∧ P ρ1 := ⟨ρ1, h, q⟩
theorem sets_nil {ρ : Rho} : setVs [] [] ρ = some ρ := rfl
theorem sets_cons {i : Nat} {is : List Nat} {v : Vl} {vs : List Vl} {ρ ρ1 ρ2 : Rho} (p : Put ρ i (some v) ρ1) (h : setVs is vs ρ1 = some ρ2) : setVs (i :: is) (v :: vs) ρ = some ρ2 := by
  show setVs is vs (ρ.set i (some v)) = _
  rw [p.h, h]
theorem app_ex {ρ ρ1 : Rho} {i : Nat} {xs : List D} {d : D} {P : Rho → Prop} (h : ρ[i]? = some (some (.ow xs))) (p : Put ρ i (some (.ow (xs ++ [d]))) ρ1) (hl : xs.length < lim) (q : P ρ1) : ∃ xs ρ1, ow? ρ i = some xs ∧ xs.length < lim ∧ ρ.set i (some (.ow (xs ++ [d]))) = ρ1 ∧ P ρ1 := ⟨xs, ρ1, by unfold ow?; rw [h], hl, p.h, q⟩
theorem ext_ex {ρ ρ1 : Rho} {i : Nat} {xs ys : List D} {d : D} {P : Rho → Prop} (h : ρ[i]? = some (some (.ow xs))) (hd : d = .lst ys) (p : Put ρ i (some (.ow (xs ++ ys))) ρ1) (hl : xs.length + ys.length ≤ lim) (q : P ρ1) : ∃ xs ys ρ1, ow? ρ i = some xs ∧ d = .lst ys ∧ xs.length + ys.length ≤ lim ∧ ρ.set i (some (.ow (xs ++ ys))) = ρ1 ∧ P ρ1 := ⟨xs, ys, ρ1, by unfold ow?; rw [h], hd, hl, p.h, q⟩
/-- x[n] = d -/
theorem st_ex {ρ ρ1 : Rho} {i n : Nat} {z : Int} {xs : List D} {d : D} {P : Rho → Prop} (h : ρ[i]? = some (some (.ow xs))) (hz : ixN xs.length z = some n) (p : Put ρ i (some (.ow (xs.set n d))) ρ1) (q : P ρ1) : ∃ xs n' m ρ1, ow? ρ i = some xs ∧ Vl.fz (.int z) = .fz (.int n') ∧ ixN xs.length n' = some m ∧ ρ.set i (some (.ow (xs.set m d))) = ρ1 ∧ P ρ1 := ⟨xs, z, n, ρ1, by unfold ow?; rw [h], rfl, hz, p.h, q⟩
theorem ds_ex {a b : D} {P : D → D → Prop} (q : P a b) : ∃ d1 d2, [a, b] = [d1, d2] ∧ P d1 d2 := ⟨a, b, rfl, q⟩
theorem bin_add {i j : Int} : binD .add (.int i) (.int j) = some (.fz (.int (i + j))) := rfl
theorem bin_sub {i j : Int} : binD .sub (.int i) (.int j) = some (.fz (.int (i - j))) := rfl
theorem cmp_lt {i j : Int} : cmpD .lt (.int i) (.int j) = some (decide (i < j)) := rfl
theorem cmp_le {i j : Int} : cmpD .le (.int i) (.int j) = some (decide (i ≤ j)) := rfl
theorem cmp_gt {i j : Int} : cmpD .gt (.int i) (.int j) = some (decide (j < i)) := rfl
theorem cmp_ge {i j : Int} : cmpD .ge (.int i) (.int j) = some (decide (j ≤ i)) := rfl
theorem cmp_is {d : D} : cmpD .is d .non = some d.isNon := by cases d <;> rfl
theorem cmp_isn {d : D} : cmpD .isn d .non = some !d.isNon := by cases d <;> rfl
theorem b1_lenL {xs : List D} : b1D .len (.lst xs) = some (.fz (.int xs.length)) := rfl
theorem b1_lenT {xs : List D} : b1D .len (.tup xs) = some (.fz (.int xs.length)) := rfl
theorem b1_tupL {xs : List D} : b1D .tuple (.lst xs) = some (.fz (.tup xs)) := rfl
theorem b1_tupT {xs : List D} : b1D .tuple (.tup xs) = some (.fz (.tup xs)) := rfl
theorem b1_lstL {xs : List D} : b1D .list (.lst xs) = some (.ow xs) := rfl
theorem b1_lstT {xs : List D} : b1D .list (.tup xs) = some (.ow xs) := rfl
theorem b1_int {i : Int} : b1D .int (.int i) = some (.fz (.int i)) := rfl
theorem rev_L {xs : List D} : revD (.lst xs) = some (.ow xs.reverse) := rfl
theorem rev_T {xs : List D} : revD (.tup xs) = some (.fz (.tup xs.reverse)) := rfl
theorem sl_L {xs : List D} {a b : Option Int} : slD (.lst xs) a b = some (.ow (cut xs a b)) := rfl
theorem sl_T {xs : List D} {a b : Option Int} : slD (.tup xs) a b = some (.fz (.tup (cut xs a b))) := rfl
theorem bin_mulW {i j : Int} (h : mulOk i j) : binD .mul (.int i) (.int j) = some (.fz (.int (i * j))) := by
  show ok? (decide _) _ = _
  unfold ok?
  rw [if_pos (decide_eq_true h)]
theorem bin_mul {i j : Int} (h : i.natAbs < 2 ^ 64 ∨ j.natAbs < 2 ^ 64) : binD .mul (.int i) (.int j) = some (.fz (.int (i * j))) := bin_mulW (.inl h)
theorem bin_mod {i j : Int} (h : 0 < j) : binD .mod (.int i) (.int j) = some (.fz (.int (i % j))) := by
  show ok? (decide _) _ = _
  unfold ok?
  rw [if_pos (decide_eq_true h)]
theorem bin_fdivW {i j : Int} (h : divOk j) : binD .fdiv (.int i) (.int j) = some (.fz (.int (i / j))) := by
  show ok? (decide _) _ = _
  unfold ok?
  rw [if_pos (decide_eq_true h)]
theorem bin_fdiv {i j : Int} (h : 0 < j ∧ j < 1073741824) : binD .fdiv (.int i) (.int j) = some (.fz (.int (i / j))) := bin_fdivW (div_small h)
theorem bin_addL {xs ys : List D} (h : xs.length + ys.length ≤ lim) : binD .add (.lst xs) (.lst ys) = some (.ow (xs ++ ys)) := by
  show ok? (decide _) _ = _
  unfold ok?
  rw [if_pos (decide_eq_true h)]
theorem bin_addT {xs ys : List D} (h : xs.length + ys.length ≤ lim) : binD .add (.tup xs) (.tup ys) = some (.fz (.tup (xs ++ ys))) := by
  show ok? (decide _) _ = _
  unfold ok?
  rw [if_pos (decide_eq_true h)]
theorem eqD_int {i j : Int} : eqD (.int i) (.int j) = some (decide (i = j)) := by
  show ok? (SeqAt.shaped (.int i) && SeqAt.shaped (.int j)) (PyData.eqv (.int i) (.int j)) = _
  have e (i : Int) : SeqAt.shaped (.int i) = true := by unfold SeqAt.shaped; rw [PyData.canLay0, PyData.depth]; rfl
  rw [e, e, PyData.eqv]
  unfold ok?
  rw [Bool.and_self, if_pos rfl]
  congr 1
theorem cmp_eq_int {i j : Int} : cmpD .eq (.int i) (.int j) = some (decide (i = j)) := eqD_int
theorem cmp_ne_int {i j : Int} : cmpD .ne (.int i) (.int j) = some (!decide (i = j)) := by
  have e : cmpD .ne (.int i) (.int j) = (eqD (.int i) (.int j)).map (!·) := rfl
  rw [e, eqD_int]
  rfl
theorem cmp_eq_str {i j : Str} : cmpD .eq (.str i) (.str j) = some (decide (i = j)) := by
  have e : cmpD .eq (.str i) (.str j) = some (i == j) := rfl
  rw [e]
  refine congrArg some ?_
  by_cases h : i = j <;> simp [h]
theorem cmp_ne_str {i j : Str} : cmpD .ne (.str i) (.str j) = some (!decide (i = j)) := by
  have e : cmpD .ne (.str i) (.str j) = (cmpD .eq (.str i) (.str j)).map (!·) := rfl
  rw [e, cmp_eq_str]
  rfl
theorem eqT_sm {x y : D} (n : Nat) (h1 : x.sm n = true) (h2 : y.sm n = true) (h3 : x.nbs = true) (h4 : y.nbs = true) (hn : n ≤ 64) : ∃ b, eqT x y = some b ∧ (b = true ↔ x = y) := by
  unfold eqT
  split
  · rename_i xs
    refine ⟨_, rfl, ?_⟩
    cases xs <;> simp
  · exact eqD_sm h1 h2 h3 h4 hn
theorem cmp_eq_sm {x y : D} (n : Nat) (h1 : x.sm n = true) (h2 : y.sm n = true) (h3 : x.nbs = true) (h4 : y.nbs = true) (hn : n ≤ 64) : cmpD .eq x y = some (@decide (x = y) (Classical.propDecidable _)) := by
  obtain ⟨b, e, h⟩ := eqT_sm n h1 h2 h3 h4 hn
  show eqT x y = _
  rw [e]
  congr 1
  rw [Bool.eq_iff_iff, h]
  simp
/-- a tuple beside the empty one -/
theorem cmp_eq_T0 {xs : List D} : cmpD .eq (.tup xs) (.tup []) = some xs.isEmpty := rfl
theorem cmp_ne_sm {x y : D} (n : Nat) (h1 : x.sm n = true) (h2 : y.sm n = true) (h3 : x.nbs = true) (h4 : y.nbs = true) (hn : n ≤ 64) : cmpD .ne x y = some (!@decide (x = y) (Classical.propDecidable _)) := by
  obtain ⟨b, e, h⟩ := eqD_sm h1 h2 h3 h4 hn
  show (eqD x y).map (!·) = _
  rw [e]
  refine congrArg some ?_
  refine congrArg (!·) ?_
  rw [Bool.eq_iff_iff, h]
  simp
theorem cmp_in_sm {x : D} {ys : List D} (n : Nat) (h1 : x.sm n = true) (h2 : D.sms n ys = true) (h3 : x.nbs = true) (h4 : D.nbss ys = true) (hn : n ≤ 63) : cmpD .inn x (.lst ys) = some (@decide (x ∈ ys) (Classical.propDecidable _)) := by
  obtain ⟨b, e, h⟩ := inD_sm h1 h2 h3 h4 hn
  show inD x ys = _
  rw [e]
  congr 1
  rw [Bool.eq_iff_iff, h]
  simp
theorem cmp_nin_sm {x : D} {ys : List D} (n : Nat) (h1 : x.sm n = true) (h2 : D.sms n ys = true) (h3 : x.nbs = true) (h4 : D.nbss ys = true) (hn : n ≤ 63) : cmpD .nin x (.lst ys) = some (!@decide (x ∈ ys) (Classical.propDecidable _)) := by
  have h := cmp_in_sm n h1 h2 h3 h4 hn
  have e : cmpD .nin x (.lst ys) = (cmpD .inn x (.lst ys)).map (!·) := rfl
  rw [e, h]
  rfl
theorem it_rng1 {n : Nat} (h : n < 2 ^ 40) : itD .rng [.int (n : Nat)] = some (dn (List.range n)) := by
  rw [← rngL_dn]
  exact rng_one h
theorem rngL_nat' (a b : Nat) : rngL (a : Int) (b : Int) = dn (List.range' a (b - a)) := by
  unfold rngL dn
  rw [List.range'_eq_map_range, List.map_map]
  have e : ((b : Int) - (a : Int)).toNat = b - a := by omega
  rw [e]
  refine List.map_congr_left fun i _ => ?_
  show D.int _ = D.int _
  congr 1
theorem it_rng0 {z : Int} (h : 0 ≤ z ∧ z < 2 ^ 40) : itD .rng [.int z] = some (dn (List.range z.toNat)) := by
  have e : z = ((z.toNat : Nat) : Int) := by omega
  rw [e, Int.toNat_natCast]
  exact it_rng1 (by omega)
theorem rng_0 {z : Int} (h : 0 ≤ z ∧ z < 2 ^ 40) : rng? (2 ^ 62) [.int z] = some (dn (List.range z.toNat)) := it_rng0 h
theorem it_rng2 {a b : Nat} (ha : a < 2 ^ 40) (hb : b < 2 ^ 40) : itD .rng [.int (a : Nat), .int (b : Nat)] = some (dn (List.range' a (b - a))) := by
  rw [← rngL_nat']
  exact rng_two ha hb
theorem it_lst {xs : List D} : itD .val [.lst xs] = some xs := rfl
theorem it_tup {xs : List D} : itD .val [.tup xs] = some xs := rfl
/-- a place among the items -/
theorem ixD_lst {xs : List D} {i : Nat} {d : D} (h : xs[i]? = some d) : ixD (.lst xs) (.int (i : Nat)) = some (.fz d) := by
  have hi : i < xs.length := by
    rcases Nat.lt_or_ge i xs.length with q | q
    · exact q
    · rw [List.getElem?_eq_none q] at h; cases h
  have hx : ixN xs.length ((i : Nat) : Int) = some i := by
    unfold ixN
    rw [if_pos (by omega), if_pos (by omega), Int.toNat_natCast]
  show (atI xs ((i : Nat) : Int)).map Vl.fz = _
  unfold atI
  rw [hx, Option.bind_some, h]
  rfl
theorem ixD_tup {xs : List D} {i : Nat} {d : D} (h : xs[i]? = some d) : ixD (.tup xs) (.int (i : Nat)) = some (.fz d) := ixD_lst (xs := xs) h
theorem ixN_nat' {n i : Nat} (h : i < n) : ixN n ((i : Nat) : Int) = some i := by
  unfold ixN
  rw [if_pos (by omega), if_pos (by omega), Int.toNat_natCast]
theorem ixN_Z {n : Nat} {z : Int} (m : Nat) (hz : z = m) (h : m < n) : ixN n z = some m := by subst hz; exact ixN_nat' h
theorem ixN_T {n : Nat} {z : Int} (h : 0 ≤ z ∧ z < (n : Nat)) : ixN n z = some z.toNat := ixN_Z _ (by omega) (by omega)
theorem ow_and {ρ : Rho} {i : Nat} {P : Prop} (h : isOw ρ i = true) (q : P) : isOw ρ i = true ∧ P := ⟨h, q⟩
theorem rng_1 {n : Nat} (h : n < 2 ^ 40) : rng? (2 ^ 62) [.int (n : Nat)] = some (dn (List.range n)) := it_rng1 h
/-- slices up to a place, from a place on -/
theorem cut_to {α : Type} (xs : List α) (n : Nat) : cut xs none (some (n : Int)) = xs.take n := by
  unfold cut
  rw [HT.sIx_none, HT.sIx_nat, List.drop_zero, Nat.sub_zero]
  by_cases h : n ≤ xs.length
  · rw [Nat.min_eq_left h]
  · rw [Nat.min_eq_right (by omega), List.take_of_length_le (Nat.le_refl _), List.take_of_length_le (by omega)]
theorem cut_from {α : Type} (xs : List α) (n : Nat) : cut xs (some (n : Int)) none = xs.drop n := by
  unfold cut
  rw [HT.sIx_none, HT.sIx_nat, List.take_of_length_le (by rw [List.length_drop]; omega)]
  by_cases h : n ≤ xs.length
  · rw [Nat.min_eq_left h]
  · rw [Nat.min_eq_right (by omega), List.drop_of_length_le (Nat.le_refl _), List.drop_of_length_le (by omega)]
theorem cut_mid {α : Type} (xs : List α) (a b : Nat) : cut xs (some (a : Int)) (some (b : Int)) = (xs.take b).drop a := by
  unfold cut
  rw [HT.sIx_nat, HT.sIx_nat, List.drop_take]
  by_cases h : a ≤ xs.length
  · rw [Nat.min_eq_left h]
    by_cases h2 : b ≤ xs.length
    · rw [Nat.min_eq_left h2]
    · rw [Nat.min_eq_right (by omega), List.take_of_length_le (by rw [List.length_drop]; omega), List.take_of_length_le (by rw [List.length_drop]; omega)]
  · rw [List.drop_of_length_le (by omega), List.drop_of_length_le (by omega), List.take_nil, List.take_nil]
end
end VI
set_option Elab.async false
set_option linter.all false
set_option maxRecDepth 100000
set_option maxHeartbeats 4000000
/-! VIx: the rules for dicts, instances, targets of several names. -/
namespace VI
open PySem L2
section
variable {C : Cal} {ρ ρ1 : Rho} {S : So} {Q : PQ Vl} {R : PQ Exc} {a b c e : E} {es : List E} {v : Vl} {d dx dy : D} {i : Nat}
theorem we_dic {ks : List Key} (h : WL C es ρ S (fun ds ρ S => (ks.length = ds.length ∧ ks.Nodup ∧ ks.length ≤ 15) ∧ Q (.fz (.dic (ks.zip ds))) ρ S) R) : WE C (.dic ks es) ρ S Q R := ⟨by
  rw [ev]
  exact Rs.holds_bind (Rs.holds_mono h.h (fun ds ρ S h => by rw [if_pos h.1]; exact h.2) fun _ _ _ h => h)⟩
theorem dic_ {ks : List Key} {n : Nat} {P : Prop} (h0 : ks.length = n) (h : ks.Nodup ∧ ks.length ≤ 15) (q : P) : (ks.length = n ∧ ks.Nodup ∧ ks.length ≤ 15) ∧ P := ⟨⟨h0, h.1, h.2⟩, q⟩
theorem we_key {k : Str} (h : WO C a ρ S (fun x ρ S => Op1 x (keyD k) ρ S Q) R) : WE C (.key a k) ρ S Q R := ⟨by
  rw [ev]
  exact Rs.holds_bind (Rs.holds_mono h.h (fun x ρ S h => h.holds) fun _ _ _ h => h)⟩
theorem keyD_of {k : Str} {kvs : List (Key × D)} {x : D} (h : keyG (.inr k) kvs = some x) : keyD k (.dic kvs) = some (.fz x) := by
  show (keyG (.inr k) kvs).map Vl.fz = _
  rw [h]
  rfl
theorem fld_ {c : Nat} {fs : List (Str × D)} {f : Str} {x : D} {P : D → Prop} (h : fs.lookup f = some x) (q : P x) : ∃ d, (Vl.fz (.obj c fs)).d.fldD f = some d ∧ P d := ⟨x, h, q⟩
variable {Γ : Tab} {fuel k n : Nat}
theorem we_meth {m : Str} (h : WE (CC Γ fuel k) e ρ S (fun v ρ S => ∃ c fs, v = .fz (.obj c fs) ∧ fs.lookup m = none ∧ WL (CC Γ fuel k) es ρ S (fun ds ρ S => WC Γ fuel k (.m c m) (.obj c fs :: ds) S (fun v S => Q v ρ S) (fun x S => R x ρ S)) noX) R) : WE (CC Γ fuel k) (.meth m e es) ρ S Q R := ⟨by
  rw [ev]
  refine Rs.holds_bind (Rs.holds_mono h.h (fun v ρ S h => ?_) fun _ _ _ h => h)
  obtain ⟨c, fs, rfl, hl, h⟩ := h
  have hr : recv (Vl.fz (.obj c fs)).d m = some (.m c m) := by
    show (if (fs.lookup m).isNone then some (Fn.m c m) else none) = _
    rw [hl]
    rfl
  refine Rs.holds_bind (holds_lift hr ?_)
  have q := h.h
  cases hh : evs (CC Γ fuel k) es ρ S with
  | no => rw [hh] at q; exact q
  | rs x ρ1 S1 => rw [hh] at q; exact q.elim
  | ok ds ρ1 S1 =>
    rw [hh] at q
    have q := WC.h q
    rw [CC_eq]
    show ((callD Γ fuel k (.m c m) (.obj c fs :: ds) S1).rs' ρ1).holds Q R
    cases h3 : callD Γ fuel k (.m c m) (.obj c fs :: ds) S1 <;> (rw [h3] at q; exact q)⟩
theorem ob_ {c : Nat} {fs : List (Str × D)} {m : Str} {P : Nat → List (Str × D) → Prop} (h : fs.lookup m = none) (q : P c fs) : ∃ c' fs', Vl.fz (.obj c fs) = .fz (.obj c' fs') ∧ fs'.lookup m = none ∧ P c' fs' := ⟨c, fs, rfl, h, q⟩
theorem we_make {c : Nat} (h : WL (CC Γ fuel k) es ρ S (fun ds ρ S => WC Γ fuel k (.mk c) ds S (fun v S => isObj c v = true ∧ Q v ρ S) (fun x S => R x ρ S)) R) : WE (CC Γ fuel k) (.make c es) ρ S Q R := ⟨by
  rw [ev]
  refine Rs.holds_bind (Rs.holds_mono h.h (fun ds ρ S h => ?_) fun _ _ _ h => h)
  have q := h.h
  rw [CC_eq]
  refine Rs.holds_bind ?_
  show ((callD Γ fuel k (.mk c) ds S).rs' ρ).holds _ R
  cases h3 : callD Γ fuel k (.mk c) ds S with
  | no => rw [h3] at q; exact q
  | rs x S1 => rw [h3] at q; exact q
  | ok v S1 =>
    rw [h3] at q
    obtain ⟨q1, q2⟩ := q
    show (if isObj c v = true then Rs.ok v ρ S1 else .no).holds Q R
    rw [if_pos q1]
    exact q2⟩
theorem isobj_ {c : Nat} {v : Vl} {P : Prop} (h : isObj c v = true) (q : P) : isObj c v = true ∧ P := ⟨h, q⟩
/-- operands of a call to which lists are lent -/
structure WOL (C : Cal) (es : List E) (ρ : Rho) (S : So) (Q : PQ (List Opd)) (R : PQ Exc) : Prop where
  h : (evO C es ρ S).holds Q R
theorem wol_nil {C : Cal} {Q : PQ (List Opd)} (q : Q [] ρ S) : WOL C [] ρ S Q R := ⟨by rw [evO]; exact q⟩
theorem wol_cons {C : Cal} {Q : PQ (List Opd)} (h : WO C e ρ S (fun v ρ S => WOL C es ρ S (fun ds ρ S => Q (v :: ds) ρ S) R) R) : WOL C (e :: es) ρ S Q R := ⟨by
  rw [evO]
  exact Rs.holds_bind (Rs.holds_mono h.h (fun v ρ S h => Rs.holds_bind h.h) fun _ _ _ h => h)⟩
structure Gts (xs : List Opd) (ρ : Rho) (ds : List D) : Prop where
  h : getO ρ xs = some ds
theorem gts_nil : Gts [] ρ [] := ⟨rfl⟩
theorem gts_cons {x : Opd} {xs : List Opd} {ds : List D} (h1 : Gt x ρ d) (h2 : Gts xs ρ ds) : Gts (x :: xs) ρ (d :: ds) := ⟨by unfold getO; rw [h1.h, Option.bind_some, h2.h]; rfl⟩
theorem gts_ {xs : List Opd} {ds : List D} {P : List D → Prop} (h : Gts xs ρ ds) (q : P ds) : ∃ ds, getO ρ xs = some ds ∧ P ds := ⟨ds, h.h, q⟩
theorem we_bcall (h : WOL (CC Γ fuel k) es ρ S (fun xs ρ S => ∃ ds, getO ρ xs = some ds ∧ WC Γ fuel k (.f n) ds S (fun v S => v.noL = true ∧ Q v ρ S) nX) R) : WE (CC Γ fuel k) (.bcall n es) ρ S Q R := ⟨by
  rw [ev]
  refine Rs.holds_bind (Rs.holds_mono h.h (fun xs ρ S h => ?_) fun _ _ _ h => h)
  obtain ⟨ds, h1, h⟩ := h
  refine Rs.holds_bind (holds_lift h1 ?_)
  have q := h.h
  rw [CC_eq]
  show (lent ρ (callD Γ fuel k (.f n) ds S)).holds Q R
  cases hh : callD Γ fuel k (.f n) ds S with
  | no => rw [hh] at q; exact q
  | rs x S1 => rw [hh] at q; exact q.elim
  | ok v S1 =>
    rw [hh] at q
    obtain ⟨q1, q2⟩ := q
    show (if v.noL = true then Rs.ok v ρ S1 else .no).holds Q R
    rw [if_pos q1]
    exact q2⟩
theorem nol_ {v : Vl} {P : Prop} (h : v.noL = true) (q : P) : v.noL = true ∧ P := ⟨h, q⟩
theorem noLs_dn : ∀ l : List Nat, D.noLs (dn l) = true
  | [] => rfl
  | n :: l => by
    show (D.noLs (D.int (n : Nat) :: dn l)) = true
    rw [D.noLs, noLs_dn l, Bool.and_true]
    simp [D.noL]
theorem noL_dn (l : List Nat) : (Vl.fz (.tup (dn l))).noL = true := by
  show D.noL (.tup (dn l)) = true
  rw [D.noL]
  exact noLs_dn l
/-- displays with starred items -/
structure WLS (C : Cal) (es : List E) (fs : List Bool) (ρ : Rho) (S : So) (Q : PQ (List D)) (R : PQ Exc) : Prop where
  h : (evS C es fs ρ S).holds Q R
theorem wls_nil {C : Cal} {fs : List Bool} {Q : PQ (List D)} (q : Q [] ρ S) : WLS C [] fs ρ S Q R := ⟨by rw [evS]; exact q⟩
theorem wls_F {C : Cal} {fs : List Bool} {Q : PQ (List D)} (h : WE C e ρ S (fun v ρ S => WLS C es fs ρ S (fun ds ρ S => Q (v.d :: ds) ρ S) R) R) : WLS C (e :: es) (false :: fs) ρ S Q R := ⟨by
  rw [evS]
  exact Rs.holds_bind (Rs.holds_mono h.h (fun v ρ S h => Rs.holds_bind (holds_lift (o := starD false v.d) (a := [v.d]) rfl (Rs.holds_bind h.h))) fun _ _ _ h => h)⟩
theorem wls_T {C : Cal} {fs : List Bool} {Q : PQ (List D)} (h : WE C e ρ S (fun v ρ S => ∃ xs, v.d.items = some xs ∧ WLS C es fs ρ S (fun ds ρ S => Q (xs ++ ds) ρ S) R) R) : WLS C (e :: es) (true :: fs) ρ S Q R := ⟨by
  rw [evS]
  refine Rs.holds_bind (Rs.holds_mono h.h (fun v ρ S h => ?_) fun _ _ _ h => h)
  obtain ⟨xs, h1, h2⟩ := h
  exact Rs.holds_bind (holds_lift (o := starD true v.d) h1 (Rs.holds_bind h2.h))⟩
theorem we_std {t : Bool} {fs : List Bool} (h : WLS C es fs ρ S (fun ds ρ S => ds.length ≤ lim ∧ Q (if t then .fz (.tup ds) else .ow ds) ρ S) R) : WE C (.std t fs es) ρ S Q R := ⟨by
  rw [ev]
  exact Rs.holds_bind (Rs.holds_mono h.h (fun ds ρ S h => by rw [if_pos h.1]; exact h.2) fun _ _ _ h => h)⟩
theorem itm_ {d : D} {xs : List D} {P : List D → Prop} (h : d.items = some xs) (q : P xs) : ∃ xs, d.items = some xs ∧ P xs := ⟨xs, h, q⟩
/-- x in range(e) -/
theorem we_irg {C : Cal} {neg : Bool} (h : WE C a ρ S (fun v ρ S => WE C e ρ S (fun w ρ S => ∃ b, irgD neg v.d w.d = some b ∧ Q (.fz (.bl b)) ρ S) R) R) : WE C (.irg neg a e) ρ S Q R := ⟨by
  rw [ev]
  refine Rs.holds_bind (Rs.holds_mono h.h (fun v ρ S h => Rs.holds_bind (Rs.holds_mono h.h (fun w ρ S h => ?_) fun _ _ _ h => h)) fun _ _ _ h => h)
  obtain ⟨b, h1, h2⟩ := h
  exact Rs.holds_bind (holds_lift h1 h2)⟩
theorem irg_ex {neg : Bool} {d1 d2 : D} {b : Bool} {P : Bool → Prop} (h : irgD neg d1 d2 = some b) (q : P b) : ∃ b, irgD neg d1 d2 = some b ∧ P b := ⟨b, h, q⟩
theorem irg_F {i j : Int} : irgD false (.int i) (.int j) = some (decide (0 ≤ i ∧ i < j)) := rfl
theorem irg_T {i j : Int} : irgD true (.int i) (.int j) = some (!decide (0 ≤ i ∧ i < j)) := rfl
/-- what an __init__ does -/
structure WPr (C : Cal) (f : Rho → So → Rs (List D)) (ms : List Pre) (ρ : Rho) (S : So) (Q : PQ (List D)) (R : PQ Exc) : Prop where
  h : (preE C f ms ρ S).holds Q R
theorem wpr_nil {es : List E} {Q : PQ (List D)} (h : WL C es ρ S Q R) : WPr C (evs C es) [] ρ S Q R := ⟨h.h⟩
theorem wpr_let {f : Rho → So → Rs (List D)} {ms : List Pre} {Q : PQ (List D)} (h : WE C e ρ S (fun v ρ S => ∃ ρ1, ρ.set i (some v) = ρ1 ∧ WPr C f ms ρ1 S Q R) R) : WPr C f (.let_ i e :: ms) ρ S Q R := ⟨by
  rw [preE]
  refine Rs.holds_bind (Rs.holds_mono h.h (fun v ρ S h => ?_) fun _ _ _ h => h)
  obtain ⟨ρ1, h1, h⟩ := h
  rw [h1]
  exact h.h⟩
theorem wpr_chk {f : Rho → So → Rs (List D)} {ms : List Pre} {Q : PQ (List D)} (h : WB C e ρ S (fun q ρ S => q = false ∧ WPr C f ms ρ S Q R) R) : WPr C f (.chk e :: ms) ρ S Q R := ⟨by
  rw [preE]
  refine Rs.holds_bind (Rs.holds_mono h.h (fun v ρ S h => ?_) fun _ _ _ h => h)
  obtain ⟨rfl, h⟩ := h
  exact h.h⟩
def rqR (R : PQ Exc) : Rst → Prop
  | .rs x ρ S => R x ρ S
  | _ => False
theorem rq_rs {R : PQ Exc} {x : Exc} (h : R x ρ S) : rqR R (.rs x ρ S) := h
theorem wpr_rs {f : Rho → So → Rs (List D)} {ms : List Pre} {bs : List VI.S} {Q : PQ (List D)} (h : WB C e ρ S (fun q ρ S => Or2 q (WSS C bs ρ S (rqR R)) (WPr C f ms ρ S Q R)) R) : WPr C f (.rs e bs :: ms) ρ S Q R := ⟨by
  rw [preE]
  refine Rs.holds_bind (Rs.holds_mono h.h (fun q ρ S h => ?_) fun _ _ _ h => h)
  cases q with
  | false => exact (h.f rfl).h
  | true =>
    have w : (exs C bs ρ S).holds (rqR R) := (h.t rfl).h
    show (rsOf (exs C bs ρ S) : Rs (List D)).holds Q R
    cases eb : exs C bs ρ S <;> (rw [eb] at w; exact w)⟩
theorem wc_md {c : Nat} {md : Md} {ds : List D} {S : So} {Q : Vl → So → Prop} {R : Exc → So → Prop} (ht : Γ (.mk c) = some (.md md)) (hl : ds.length = md.np) (h : WPr (CC Γ fuel k) (evs (CC Γ fuel k) md.fes) md.pre (iniM md.ns ds) S (fun xs _ S => Q (.fz (.obj md.c (md.fns.zip xs))) S) (fun x _ S => R x S)) : WC Γ fuel (k + 1) (.mk c) ds S Q R := ⟨by
  rw [callD, ht]
  show (if ds.length = md.np then finM md (preE ⟨callD Γ fuel k, fuel⟩ (evs ⟨callD Γ fuel k, fuel⟩ md.fes) md.pre (iniM md.ns ds) S) else .no).holds Q R
  rw [if_pos hl, ← CC_eq]
  have q := h.h
  cases hh : preE (CC Γ fuel k) (evs (CC Γ fuel k) md.fes) md.pre (iniM md.ns ds) S <;> (rw [hh] at q; exact q)⟩
/-- targets -/
theorem sa_nil : setAll [] [] ρ = some ρ := rfl
theorem sa_cons {is : List Nat} {ds : List D} {ρ2 : Rho} (p : Put ρ i (some (.fz d)) ρ1) (h : setAll is ds ρ1 = some ρ2) : setAll (i :: is) (d :: ds) ρ = some ρ2 := by
  show setAll is ds (ρ.set i (some (.fz d))) = _
  rw [p.h, h]
theorem tg_tp {is : List Nat} {ds : List D} (h : setAll is ds ρ = some ρ1) : tgD (.tp is) (.tup ds) ρ = some ρ1 := h
theorem tg_nm (p : Put ρ i (some (.fz d)) ρ1) : tgD (.nm i) d ρ = some ρ1 := by rw [← p.h]; rfl
theorem ww_step {p : List VI.S} {QS : Rst → Prop} (hn : 0 < n) (h : WB C c ρ S (fun q ρ S => Or2 q (WSS C p ρ S (tq (fun ρ S => WW C c p (n - 1) ρ S QS) QS)) (QS (.nx ρ S))) (xR QS)) : WW C c p n ρ S QS := by
  obtain ⟨m, rfl⟩ : ∃ m, n = m + 1 := ⟨n - 1, by omega⟩
  exact ww_turn h
end
/-- a tuple so many times -/
theorem bin_rep {xs : List D} {k : Int} (h : 0 ≤ k ∧ k ≤ 1000 ∧ xs.length ≤ 1000) : binD .mul (.tup xs) (.int k) = some (.fz (.tup (List.replicate k.toNat xs).flatten)) := by
  show ok? (decide _) _ = _
  unfold ok?
  rw [if_pos (decide_eq_true h)]
theorem bin_repL {xs : List D} {k : Int} (h : 0 ≤ k ∧ k ≤ 1000 ∧ xs.length ≤ 1000) : binD .mul (.lst xs) (.int k) = some (.ow (List.replicate k.toNat xs).flatten) := by
  show ok? (decide _) _ = _
  unfold ok?
  rw [if_pos (decide_eq_true h)]
theorem rep_one (x : D) (n : Nat) : (List.replicate n [x]).flatten = List.replicate n x := by
  induction n with
  | zero => rfl
  | succ n ih => rw [List.replicate_succ, List.flatten_cons, ih, List.replicate_succ]; rfl
theorem dn_zeros (n : Nat) : List.replicate n (D.int 0) = dn (List.replicate n 0) := by
  unfold dn
  rw [List.map_replicate]
  rfl
theorem bin_zeros {n : Nat} (h : n ≤ 1000) : binD .mul (.tup [.int 0]) (.int (n : Nat)) = some (.fz (.tup (dn (List.replicate n 0)))) := by
  rw [bin_rep ⟨by omega, by omega, by decide⟩, rep_one, dn_zeros, Int.toNat_natCast]
theorem it_zip {d e : D} {xs ys : List D} (h : d.items = some xs) (h2 : e.items = some ys) : itD .zip [d, e] = some ((xs.zip ys).map fun p => .tup [p.1, p.2]) := by
  show d.items.bind (fun xs => e.items.map fun ys => (xs.zip ys).map fun p => D.tup [p.1, p.2]) = _
  rw [h, Option.bind_some, h2]
  rfl
theorem it_enum {d : D} {xs : List D} (h : d.items = some xs) : itD .enum [d] = some (xs.zipIdx.map fun p => .tup [.int (p.2 : Nat), p.1]) := by
  show d.items.map (fun xs => xs.zipIdx.map fun p => D.tup [.int (p.2 : Nat), p.1]) = _
  rw [h]
  rfl
/-! ### isinstance -/
theorem isaO_ {ts : List Ty} {d : D} {ρ : Rho} {x : Opd} {Q : Bool → Prop} (hx : Gt x ρ d) (h : d.kind = none) (h2 : d.isObj = true) (q : Q false) : ∃ d q, x.get ρ = some d ∧ isaD ts d = some q ∧ Q q := ⟨d, false, hx.h, by unfold isaD; rw [h]; show (if d.isObj = true then _ else _) = _; rw [h2]; rfl, q⟩
theorem isa_ {ts : List Ty} {d : D} {k : String} {ρ : Rho} {x : Opd} {Q : Bool → Prop} (hx : Gt x ρ d) (h : d.kind = some k) (q : Q (ts.any (isaB k))) : ∃ d q, x.get ρ = some d ∧ isaD ts d = some q ∧ Q q := ⟨d, _, hx.h, by unfold isaD; rw [h], q⟩
/-! ### sums -/
theorem ints_dn' : ∀ ns : List Nat, ints? (dn ns) = some (ns.map fun (n : Nat) => (n : Int))
  | [] => rfl
  | n :: ns => by
    have ih := ints_dn' ns
    show (ints? (dn ns)).map _ = _
    rw [ih]
    rfl
theorem sum_ints' : ∀ ns : List Nat, ((ns.map fun (n : Nat) => (n : Int)).sum) = ((ns.sum : Nat) : Int)
  | [] => rfl
  | n :: ns => by rw [List.map_cons, List.sum_cons, List.sum_cons, sum_ints' ns]; omega
theorem b1_sum (ns : List Nat) : b1D .sum (.lst (dn ns)) = some (.fz (.int ((ns.sum : Nat) : Int))) := by
  show (ints? (dn ns)).map _ = _
  rw [ints_dn']
  show some (Vl.fz (.int _)) = _
  rw [sum_ints']
/-! ### the law's draws, in any law -/
section
variable {Γ : Tab} {fuel k j : Nat}
theorem wc_source (ht : Γ (.f j) = some (.fd ⟨1, 3, sourceB⟩)) {ns : List Int} (h : ns.length ≤ 1000) {Q : Vl → So → Prop} {R : Exc → So → Prop} (q : ∀ s : Src, s.Good → Q (.fz .src) (some s)) : WC Γ fuel (k + 1) (.f j) [.scr ns] none Q R := by
  obtain ⟨s, ρ, e, g⟩ := source_ok ⟨callD Γ fuel k, fuel⟩ ns h
  refine WC.of (v := .fz .src) (S1 := some s) ?_ (q s g)
  rw [callD, ht]
  show (if [D.scr ns].length = 1 then fin (exs ⟨callD Γ fuel k, fuel⟩ sourceB (ini 3 [.scr ns]) none) else .no) = _
  rw [if_pos (show [D.scr ns].length = 1 from rfl), e]
  rfl
theorem wc_pick (hf : 1000 < fuel) (ht : Γ (.f j) = some (.fd ⟨2, 4, pickB⟩)) {z : Int} (hz : 0 ≤ z ∧ z < 1000000000) {s : Src} (g : s.Good) {Q : Vl → So → Prop} {R : Exc → So → Prop} (q : ∀ (n : Nat) (s' : Src), s'.Good → n = 0 ∨ (n : Int) < z → Q (.fz (.int (n : Nat))) (some s')) : WC Γ fuel (k + 1) (.f j) [.src, .int z] (some s) Q R := by
  obtain ⟨n, s', ρ, e, g', h1, h2⟩ := pick_ok ⟨callD Γ fuel k, fuel⟩ hf z (by omega) (by omega) s g
  have en : ((n.toNat : Nat) : Int) = n := Int.toNat_of_nonneg h1
  refine WC.of (v := .fz (.int n)) (S1 := some s') ?_ (by rw [← en]; exact q n.toNat s' g' (by omega))
  rw [callD, ht]
  show (if [D.src, .int z].length = 2 then fin (exs ⟨callD Γ fuel k, fuel⟩ pickB (ini 4 [.src, .int z]) (some s)) else .no) = _
  rw [if_pos (show [D.src, D.int z].length = 2 from rfl), e]
  rfl
theorem wc_of {j' : Nat} (hf : 1000 < fuel) (ht : Γ (.f j) = some (.fd ⟨2, 2, [.ret (.ix (.var 1) (.call j' [(.var 0), (.b1 .len (.var 1))]))]⟩)) (hp : Γ (.f j') = some (.fd ⟨2, 4, pickB⟩)) {xs : List D} (h0 : xs ≠ []) (hl : xs.length ≤ 1000000) {s : Src} (g : s.Good) {Q : Vl → So → Prop} {R : Exc → So → Prop}
    (q : ∀ (i : Nat) (d : D) (s' : Src), s'.Good → xs[i]? = some d → Q (.fz d) (some s')) : WC Γ fuel (k + 2) (.f j) [.src, .lst xs] (some s) Q R := by
  refine wc_fd ht rfl ?_
  refine wss_cons (ws_ret (fun i z => by cases z) (we_ix (wo_var (at_fz (d := .lst xs) rfl) ?_)))
  refine wo_val (fun i z => by cases z) (we_call (wl_cons (we_var (d := .src) rfl (wl_cons (we_b1 (wo_var (at_fz (d := .lst xs) rfl) (op1_ (gt_sl (at_fz rfl)) b1_lenL (wl_nil ?_))))))))
  refine wc_pick (k := k) hf hp (z := xs.length) (by omega) g fun n s' g' hn => ?_
  have hpos : 0 < xs.length := List.length_pos_iff.mpr h0
  have hn : n < xs.length := by omega
  exact op2_ (gt_sl (at_fz (d := .lst xs) rfl)) gt_fz (ixD_lst (List.getElem?_eq_getElem hn)) (sq_rt (fq_rt (q n _ s' g' (List.getElem?_eq_getElem hn))))
end
/-- a comprehension over what stands for the members of l -/
theorem we_compM {C : Cal} {ρ : Rho} {S : So} {Q : PQ Vl} {R : PQ Exc} {es : List E} {t : Tg} {mc me : E} {kk : ItK} {own : List Nat} {α : Type} (l : List α) (g h : α → D) (H : WL C es ρ S (fun ds ρ1 S1 => itD kk ds = some (l.map g) ∧ l.length ≤ lim ∧
    (∀ x ∈ l, WT C t mc me (g x) (wipeR ρ1 own) S1 (fun o ρ S => o = some (h x) ∧ S = S1 ∧ wipeR ρ own = wipeR ρ1 own) noX) ∧ Q (.ow (l.map h)) ρ1 S1) R) : WE C (.comp me t kk es mc own) ρ S Q R := by
  refine we_comp (fun ρ1 S1 done acc ρ2 S2 => acc = (l.take done.length).map h ∧ wipeR ρ2 own = wipeR ρ1 own ∧ S2 = S1) ⟨Rs.holds_mono H.h (fun ds ρ1 S1 H => ?_) fun _ _ _ h => h⟩
  obtain ⟨h1, h2, h3, h4⟩ := H
  refine ⟨l.map g, h1, by rw [List.length_map]; exact h2, ⟨rfl, rfl, rfl⟩, fun done d rest acc ρ2 S2 e i => ?_, fun acc ρ' S' i => ?_⟩
  · obtain ⟨rfl, i2, rfl⟩ := i
    have hd : (l.map g)[done.length]? = some d := by rw [e, List.getElem?_append_right (Nat.le_refl _), Nat.sub_self]; rfl
    rw [List.getElem?_map] at hd
    cases hx : l[done.length]? with
    | none => rw [hx] at hd; cases hd
    | some x =>
      rw [hx] at hd
      cases hd
      rw [i2]
      refine ⟨Rs.holds_mono (h3 x (List.mem_of_getElem? hx)).h (fun o ρ S h => ?_) fun _ _ _ h => h⟩
      obtain ⟨rfl, rfl, h5⟩ := h
      refine ⟨?_, h5, rfl⟩
      rw [List.length_append, List.length_singleton, List.take_add_one, hx, List.map_append]
      rfl
  · obtain ⟨rfl, i2, rfl⟩ := i
    rw [back_same i2, List.length_map, List.take_of_length_le (Nat.le_refl _)]
    exact h4
/-- the same with a condition -/
theorem we_compMF {C : Cal} {ρ : Rho} {S : So} {Q : PQ Vl} {R : PQ Exc} {es : List E} {t : Tg} {mc me : E} {kk : ItK} {own : List Nat} {α : Type} (l : List α) (g : α → D) (h : α → Option D) (H : WL C es ρ S (fun ds ρ1 S1 => itD kk ds = some (l.map g) ∧ l.length ≤ lim ∧
    (∀ x ∈ l, WT C t mc me (g x) (wipeR ρ1 own) S1 (fun o ρ S => o = h x ∧ S = S1 ∧ wipeR ρ own = wipeR ρ1 own) noX) ∧ Q (.ow (l.filterMap h)) ρ1 S1) R) : WE C (.comp me t kk es mc own) ρ S Q R := by
  refine we_comp (fun ρ1 S1 done acc ρ2 S2 => acc = (l.take done.length).filterMap h ∧ wipeR ρ2 own = wipeR ρ1 own ∧ S2 = S1) ⟨Rs.holds_mono H.h (fun ds ρ1 S1 H => ?_) fun _ _ _ h => h⟩
  obtain ⟨h1, h2, h3, h4⟩ := H
  refine ⟨l.map g, h1, by rw [List.length_map]; exact h2, ⟨rfl, rfl, rfl⟩, fun done d rest acc ρ2 S2 e i => ?_, fun acc ρ' S' i => ?_⟩
  · obtain ⟨rfl, i2, rfl⟩ := i
    have hd : (l.map g)[done.length]? = some d := by rw [e, List.getElem?_append_right (Nat.le_refl _), Nat.sub_self]; rfl
    rw [List.getElem?_map] at hd
    cases hx : l[done.length]? with
    | none => rw [hx] at hd; cases hd
    | some x =>
      rw [hx] at hd
      cases hd
      rw [i2]
      refine ⟨Rs.holds_mono (h3 x (List.mem_of_getElem? hx)).h (fun o ρ S h => ?_) fun _ _ _ h => h⟩
      obtain ⟨rfl, rfl, h5⟩ := h
      refine ⟨?_, h5, rfl⟩
      rw [List.length_append, List.length_singleton, List.take_add_one, hx, List.filterMap_append]
      refine congrArg _ ?_
      show _ = List.filterMap _ [x]
      rw [List.filterMap_cons]
      cases h x <;> rfl
  · obtain ⟨rfl, i2, rfl⟩ := i
    rw [back_same i2, List.length_map, List.take_of_length_le (Nat.le_refl _)]
    exact h4
theorem zip_dn (u w : List Nat) : ((dn u).zip (dn w)).map (fun p => D.tup [p.1, p.2]) = (u.zip w).map fun q => D.tup [.int (q.1 : Nat), .int (q.2 : Nat)] := by
  unfold dn
  rw [List.zip_map, List.map_map]
  rfl
theorem aug_ex {ρ ρ1 : Rho} {i : Nat} {x z d : D} {op : Bop} {P : Rho → Prop} (h : At ρ i x) (h2 : augD op x d = some z) (p : Put ρ i (some (.fz z)) ρ1) (q : P ρ1) : ∃ x z ρ1, slD? ρ i = some x ∧ augD op x d = some z ∧ ρ.set i (some (.fz z)) = ρ1 ∧ P ρ1 := ⟨x, z, ρ1, h.h, h2, p.h, q⟩
theorem aug_add {i j : Int} : augD .add (.int i) (.int j) = some (.int (i + j)) := rfl
theorem aug_sub {i j : Int} : augD .sub (.int i) (.int j) = some (.int (i - j)) := rfl
theorem aug_mulW {i j : Int} (h : mulOk i j) : augD .mul (.int i) (.int j) = some (.int (i * j)) := by
  show ok? (decide _) _ = _
  unfold ok?
  rw [if_pos (decide_eq_true h)]
theorem aug_mul {i j : Int} (h : i.natAbs < 2 ^ 64 ∨ j.natAbs < 2 ^ 64) : augD .mul (.int i) (.int j) = some (.int (i * j)) := aug_mulW (.inl h)
theorem aug_fdiv {i j : Int} (h : 0 < j ∧ j < 1073741824) : augD .fdiv (.int i) (.int j) = some (.int (i / j)) := by
  show ok? (decide _) _ = _
  unfold ok?
  rw [if_pos (decide_eq_true (div_small h))]
theorem tg_tpL {is : List Nat} {ds : List D} {ρ ρ1 : Rho} (h : setAll is ds ρ = some ρ1) : tgD (.tp is) (.lst ds) ρ = some ρ1 := h
/-! ### exceptions -/
section
variable {C : Cal} {ρ ρ1 : Rho} {S : So} {QS : Rst → Prop} {e : E} {c : Nat} {b : List VI.S} {cs ns : List Nat} {nm : Option Nat} {h : HS}
theorem ws_rse0 (q : QS (.rs ⟨c, []⟩ ρ S)) : WS C (.rse c none e) ρ S QS := ⟨by rw [ex]; exact q⟩
theorem ws_rse1 {f : Str} {tp : Bool} (q : WE C e ρ S (fun v ρ S => (tp && !v.d.isT) = false ∧ QS (.rs ⟨c, [(f, v.d)]⟩ ρ S)) (xR QS)) : WS C (.rse c (some (f, tp)) e) ρ S QS := ⟨by
  rw [ex]
  refine Rs.holds_st (Rs.holds_mono q.h (fun v ρ S h => ?_) fun _ _ _ h => h)
  rw [if_neg (by rw [h.1]; exact Bool.false_ne_true)]
  exact h.2⟩
theorem rse_ {tp : Bool} {d : D} {P : Prop} (h : (tp && !d.isT) = false) (q : P) : (tp && !d.isT) = false ∧ P := ⟨h, q⟩
@[irreducible] def hq (cs ns : List Nat) (nm : Option Nat) (h : HS) (QS : Rst → Prop) : Rst → Prop := fun r => (r.hdl cs ns nm h).holds QS
theorem ws_try (q : WSS C b ρ S (hq cs ns nm h QS)) : WS C (.try_ b cs ns nm h) ρ S QS := ⟨by
  rw [ex]
  have q := q.h
  unfold hq at q
  cases hh : exs C b ρ S with
  | no => rw [hh] at q; exact q.elim
  | _ => rw [hh] at q; exact q⟩
theorem hq_nx (q : QS (.nx ρ S)) : hq cs ns nm h QS (.nx ρ S) := by unfold hq; exact q
theorem hq_rt {v : Vl} (q : QS (.rt v ρ S)) : hq cs ns nm h QS (.rt v ρ S) := by unfold hq; exact q
theorem hq_bk (q : QS (.bk ρ S)) : hq cs ns nm h QS (.bk ρ S) := by unfold hq; exact q
theorem hq_ct (q : QS (.ct ρ S)) : hq cs ns nm h QS (.ct ρ S) := by unfold hq; exact q
theorem hq_rs {x : Exc} (h1 : (cs.contains x.c && nmOk nm ρ) = true) (q : ((hsR x h (unN nm ρ) S).unb nm).holds QS) : hq cs ns nm h QS (.rs x ρ S) := by
  unfold hq
  show (if _ then _ else _ : Rst).holds QS
  rw [if_pos h1]
  exact q
theorem hq_thru {x : Exc} (h1 : (cs.contains x.c && nmOk nm ρ) = false) (h2 : ns.contains x.c = true) (q : QS (.rs x ρ S)) : hq cs ns nm h QS (.rs x ρ S) := by
  unfold hq
  show (if _ then _ else _ : Rst).holds QS
  rw [if_neg (by rw [h1]; exact Bool.false_ne_true), if_pos h2]
  exact q
theorem hq_ret {x : Exc} {e : HE} {v : Vl} (h1 : (cs.contains x.c && nmOk nm ρ) = true) (h2 : heV x e = some v) (h3 : unN nm ρ = ρ1) (q : QS (.rt v ρ1 S)) : hq cs ns nm (.ret e) QS (.rs x ρ S) := by
  refine hq_rs h1 ?_
  rw [hsR, h2, h3]
  exact q
theorem hq_retn {x : Exc} (h1 : (cs.contains x.c && nmOk nm ρ) = true) (h3 : unN nm ρ = ρ1) (q : QS (.rt (.fz .non) ρ1 S)) : hq cs ns nm .retn QS (.rs x ρ S) := by
  refine hq_rs h1 ?_
  rw [hsR, h3]
  exact q
theorem hq_asg {x : Exc} {e : HE} {v : Vl} {i : Nat} (h1 : (cs.contains x.c && nmOk nm ρ) = true) (h2 : heV x e = some v) (h3 : unN nm ((unN nm ρ).set i (some v)) = ρ1) (q : QS (.nx ρ1 S)) : hq cs ns nm (.asg i e) QS (.rs x ρ S) := by
  refine hq_rs h1 ?_
  rw [hsR, h2]
  show QS (.nx (unN nm _) S)
  rw [h3]
  exact q
theorem fq_rs {x : Exc} {Q : Vl → So → Prop} {R : Exc → So → Prop} (q : R x S) : fQ Q R (.rs x ρ S) := by unfold fQ; exact q
theorem xr_ {x : Exc} (q : QS (.rs x ρ S)) : xR QS x ρ S := q
end
/-! ### dicts that change -/
section
variable {C : Cal} {ρ : Rho} {S : So} {R : PQ Exc} {Q : PQ Vl} {a o e i x : E} {QS : Rst → Prop} {s : Src}
theorem memI_mk {j : Nat} {m : Mem} (h : s.mem[j]? = some m) : memI? (.mem j) (some s) = some (j, m, s) := by
  show (s.mem[j]?).map _ = _
  rw [h]
  rfl
theorem we_dnew (q : Q (.fz (.mem s.mem.length)) ρ (some { s with mem := s.mem ++ [[]] })) : WE C .dnew ρ (some s) Q R := ⟨by rw [ev]; exact q⟩
theorem wb_din {neg : Bool} {Q : PQ Bool} (h : WE C a ρ S (fun v ρ S => WE C o ρ S (fun u ρ S => ∃ j m s k, memI? u.d S = some (j, m, s) ∧ keyM? v.d = some k ∧ Q ((memG m k).isSome != neg) ρ S) R) R) : WB C (.din neg a o) ρ S Q R := ⟨by
  rw [ev]
  unfold tru
  rw [Rs.bind_assoc]
  refine Rs.holds_bind (Rs.holds_mono h.h (fun v ρ S h => ?_) fun _ _ _ h => h)
  rw [Rs.bind_assoc]
  refine Rs.holds_bind (Rs.holds_mono h.h (fun u ρ S h => ?_) fun _ _ _ h => h)
  obtain ⟨j, m, s, k, h1, h2, q⟩ := h
  rw [h1, h2]
  exact q⟩
theorem we_din {neg : Bool} (h : WB C (.din neg a o) ρ S (fun b ρ S => Q (.fz (.bl b)) ρ S) R) : WE C (.din neg a o) ρ S Q R := we_of_wb rfl h
theorem we_dget (h : WE C o ρ S (fun u ρ S => WE C a ρ S (fun v ρ S => ∃ j m s k x, memI? u.d S = some (j, m, s) ∧ keyM? v.d = some k ∧ memG m k = some x ∧ Q (.fz x.d) ρ S) R) R) : WE C (.dget o a) ρ S Q R := ⟨by
  rw [ev]
  refine Rs.holds_bind (Rs.holds_mono h.h (fun v ρ S h => ?_) fun _ _ _ h => h)
  refine Rs.holds_bind (Rs.holds_mono h.h (fun u ρ S h => ?_) fun _ _ _ h => h)
  obtain ⟨j, m, s, k, x, h1, h2, h3, q⟩ := h
  rw [h1, h2]
  show ((lift (memG m k) ρ S).bind _).holds Q R
  rw [h3]
  exact q⟩
theorem we_dkeys (h : WE C o ρ S (fun u ρ S => ∃ j m s, memI? u.d S = some (j, m, s) ∧ Q (.ow (memK m)) ρ S) R) : WE C (.dkeys o) ρ S Q R := ⟨by
  rw [ev]
  refine Rs.holds_bind (Rs.holds_mono h.h (fun v ρ S h => ?_) fun _ _ _ h => h)
  obtain ⟨j, m, s, h1, q⟩ := h
  rw [h1]
  exact q⟩
theorem we_kix (h : WE C a ρ S (fun u ρ S => WE C i ρ S (fun v ρ S => ∃ d, kixD u.d v.d = some d ∧ Q (.fz d) ρ S) R) R) : WE C (.kix a i) ρ S Q R := ⟨by
  rw [ev]
  refine Rs.holds_bind (Rs.holds_mono h.h (fun v ρ S h => ?_) fun _ _ _ h => h)
  refine Rs.holds_bind (Rs.holds_mono h.h (fun u ρ S h => ?_) fun _ _ _ h => h)
  obtain ⟨d, h1, q⟩ := h
  rw [h1]
  exact q⟩
theorem we_kget (h : WE C a ρ S (fun u ρ S => ∃ kvs, u.d = .dic kvs ∧ WE C i ρ S (fun v ρ S => ∃ j, v.d = .int j ∧ WE C x ρ S (fun y ρ S => Q (.fz ((keyG (.inl j) kvs).getD y.d)) ρ S) R) R) R) : WE C (.kget a i x) ρ S Q R := ⟨by
  rw [ev]
  refine Rs.holds_bind (Rs.holds_mono h.h (fun v ρ S h => ?_) fun _ _ _ h => h)
  obtain ⟨kvs, h1, h⟩ := h
  rw [h1]
  show (if dicK (.dic kvs) then _ else _ : Rs Vl).holds Q R
  rw [if_pos (show dicK (.dic kvs) = true from rfl)]
  refine Rs.holds_bind (Rs.holds_mono h.h (fun u ρ S h => ?_) fun _ _ _ h => h)
  obtain ⟨j, h2, h⟩ := h
  refine Rs.holds_bind (Rs.holds_mono h.h (fun y ρ S h => ?_) fun _ _ _ h => h)
  rw [h2]
  exact h⟩
theorem ws_dput (h : WE C e ρ S (fun v ρ S => WE C o ρ S (fun u ρ S => WE C a ρ S (fun x ρ S => ∃ j m s k y, memI? u.d S = some (j, m, s) ∧ keyM? x.d = some k ∧ mv? v.d = some y ∧ m.length < lim ∧ QS (.nx ρ (some { s with mem := s.mem.set j (memP m k y) }))) (xR QS)) (xR QS)) (xR QS)) : WS C (.dput o a e) ρ S QS := ⟨by
  rw [ex]
  refine Rs.holds_st (Rs.holds_mono h.h (fun v ρ S h => ?_) fun _ _ _ h => h)
  refine Rs.holds_st (Rs.holds_mono h.h (fun u ρ S h => ?_) fun _ _ _ h => h)
  refine Rs.holds_st (Rs.holds_mono h.h (fun x ρ S h => ?_) fun _ _ _ h => h)
  obtain ⟨j, m, s, k, y, h1, h2, h3, h4, q⟩ := h
  rw [h1, h2]
  show ((lift (mv? v.d) ρ S).st _).holds QS
  rw [h3]
  show (if m.length < lim then _ else _ : Rst).holds QS
  rw [if_pos h4]
  exact q⟩
end
/-- a comprehension over what stands for the members of l, while something holds of the state -/
theorem we_compMS {C : Cal} {ρ : Rho} {S : So} {Q : PQ Vl} {R : PQ Exc} {es : List E} {t : Tg} {mc me : E} {kk : ItK} {own : List Nat} {α : Type} (l : List α) (g h : α → D) (P : So → Prop) (H : WL C es ρ S (fun ds ρ1 S1 => itD kk ds = some (l.map g) ∧ l.length ≤ lim ∧ P S1 ∧
    (∀ x ∈ l, ∀ S2, P S2 → WT C t mc me (g x) (wipeR ρ1 own) S2 (fun o ρ S => o = some (h x) ∧ P S ∧ wipeR ρ own = wipeR ρ1 own) noX) ∧ ∀ S2, P S2 → Q (.ow (l.map h)) ρ1 S2) R) : WE C (.comp me t kk es mc own) ρ S Q R := by
  refine we_comp (fun ρ1 S1 done acc ρ2 S2 => acc = (l.take done.length).map h ∧ wipeR ρ2 own = wipeR ρ1 own ∧ P S2) ⟨Rs.holds_mono H.h (fun ds ρ1 S1 H => ?_) fun _ _ _ h => h⟩
  obtain ⟨h1, h2, h0, h3, h4⟩ := H
  refine ⟨l.map g, h1, by rw [List.length_map]; exact h2, ⟨rfl, rfl, h0⟩, fun done d rest acc ρ2 S2 e i => ?_, fun acc ρ' S' i => ?_⟩
  · obtain ⟨rfl, i2, i3⟩ := i
    have hd : (l.map g)[done.length]? = some d := by rw [e, List.getElem?_append_right (Nat.le_refl _), Nat.sub_self]; rfl
    rw [List.getElem?_map] at hd
    cases hx : l[done.length]? with
    | none => rw [hx] at hd; cases hd
    | some x =>
      rw [hx] at hd
      cases hd
      rw [i2]
      refine ⟨Rs.holds_mono (h3 x (List.mem_of_getElem? hx) S2 i3).h (fun o ρ S h => ?_) fun _ _ _ h => h⟩
      obtain ⟨rfl, h6, h5⟩ := h
      refine ⟨?_, h5, h6⟩
      rw [List.length_append, List.length_singleton, List.take_add_one, hx, List.map_append]
      rfl
  · obtain ⟨rfl, i2, i3⟩ := i
    rw [back_same i2, List.length_map, List.take_of_length_le (Nat.le_refl _)]
    exact h4 S' i3
end VI
namespace K
open PySem VI
/-- is_number: 0 value -/
def b0 : List S := [.ret (.and (.isi [.int] (.var 0)) (.and (.not (.isi [.bool] (.var 0))) (.cmp .ge (.var 0) (.int 0))))]
/-- is_level: 0 n, 1 value -/
def b1 : List S := [.ret (.and (.call 0 [(.var 1)]) (.chn .le .lt (.int 1) (.var 1) (.var 0)))]
/-- sorting_steps: 0 order, 1 level -/
def b2 : List S := [.ret (.comp (.var 1) (.nm 1) .rng [(.int 1), (.b1 .len (.var 0))] (.cmp .gt (.ix (.var 0) (.bin .sub (.var 1) (.int 1))) (.ix (.var 0) (.var 1))) [1])]
/-- stepped: 0 order, 1 level -/
def b3 : List S := [.ite (.not (.call 1 [(.b1 .len (.var 0)), (.var 1)])) [.nev] [], .ret (.bin .add (.bin .add (.sl (.var 0) (.non) (.bin .sub (.var 1) (.int 1))) (.tup [(.ix (.var 0) (.var 1)), (.ix (.var 0) (.bin .sub (.var 1) (.int 1)))])) (.sl (.var 0) (.bin .add (.var 1) (.int 1)) (.non)))]
/-- counted: 0 order, 1 known, 2 steps, 3 level -/
def b4 : List S := [.ite (.din true (.var 0) (.var 1)) [.asg (.nm 2) (.call 2 [(.var 0)]), .dput (.var 1) (.var 0) (.ife (.cmp .ne (.var 2) (.lst [])) (.b1 .sum (.comp (.call 4 [(.call 3 [(.var 0), (.var 3)]), (.var 1)]) (.nm 3) .val [(.var 2)] (.bl true) [3])) (.int 1))] [], .ret (.dget (.var 1) (.var 0))]
/-- count_rows: 0 order -/
def b5 : List S := [.ret (.call 4 [(.var 0), (.dnew)])]
/-- row_at: 0 order, 1 number, 2 known, 3 found, 4 left, 5 level, 6 here -/
def b6 : List S := [.par [2, 3, 4] [(.dnew), (.lst []), (.var 1)], .ite (.cmp .ge (.var 1) (.call 4 [(.var 0), (.var 2)])) [.rse 100 none .non] [], .whl (.cmp .ne (.call 2 [(.var 0)]) (.lst [])) [.for_ (.nm 5) .val [(.call 2 [(.var 0)])] [.asg (.nm 6) (.call 4 [(.call 3 [(.var 0), (.var 5)]), (.var 2)]), .ite (.cmp .lt (.var 4) (.var 6)) [.app 3 (.var 5), .asg (.nm 0) (.call 3 [(.var 0), (.var 5)]), .brk] [], .aug 4 .sub (.var 6)]], .ret (.var 3)]
/-- falling_places: 0 order, 1 a, 2 high, 3 b, 4 c -/
def b7 : List S := [.for_ (.tp [1, 2]) .enum [(.var 0)] [.for_ (.nm 3) .rng [(.bin .add (.var 1) (.int 1)), (.b1 .len (.var 0))] [.for_ (.nm 4) .rng [(.bin .add (.var 3) (.int 1)), (.b1 .len (.var 0))] [.ite (.chn .gt .gt (.var 2) (.ix (.var 0) (.var 3)) (.ix (.var 0) (.var 4))) [.ret (.tup [(.var 1), (.var 3), (.var 4)])] []]]], .ret (.non)]
/-- is_plain: 0 order -/
def b8 : List S := [.ret (.cmp .is (.call 7 [(.var 0)]) (.non))]
/-- _law_source: 0 _law_script, 1 _law_mixed_here, 2 _law_cell -/
def b9 : List S := sourceB
/-- _law_pick: 0 _law_source_here, 1 _law_many, 2 _law_left, 3 _law_mixed_here -/
def b10 : List S := pickB
/-- _law_mixed: 0 _law_source_here, 1 _law_things, 2 _law_rest, 3 _law_lap -/
def b11 : List S := [.asg (.nm 2) (.b1 .list (.var 1)), .ret (.comp (.pop 2 (.call 10 [(.var 0), (.b1 .len (.var 2))])) (.nm 3) .rng [(.b1 .len (.var 2))] (.bl true) [3])]
/-- _law_any_order: 0 _law_source_here, 1 _law_n, 2 _law_turn, 3 _law_order, 4 _law_k -/
def b12 : List S := [.par [2, 3] [(.call 10 [(.var 0), (.int 6)]), (.lrng [(.var 1)])], .ite (.cmp .eq (.var 2) (.int 0)) [.ret (.b1 .tuple (.rev (.var 3)))] [], .ite (.and (.cmp .eq (.var 2) (.int 1)) (.cmp .gt (.var 1) (.int 1))) [.asg (.nm 4) (.call 10 [(.var 0), (.bin .sub (.var 1) (.int 1))]), .sw 3 (.var 4) 3 (.bin .add (.var 4) (.int 1)) [(.ix (.var 3) (.bin .add (.var 4) (.int 1))), (.ix (.var 3) (.var 4))]] [], .ret (.b1 .tuple (.ife (.cmp .lt (.var 2) (.int 3)) (.var 3) (.call 11 [(.var 0), (.var 3)])))]
/-- _law_inversions: 0 _law_order, 1 _law_a, 2 _law_b -/
def b13 : List S := [.ret (.b1 .sum (.comp (.b1 .len (.comp (.var 2) (.nm 2) .rng [(.var 1)] (.cmp .gt (.ix (.var 0) (.var 2)) (.ix (.var 0) (.var 1))) [2])) (.nm 1) .rng [(.b1 .len (.var 0))] (.bl true) [1]))]
/-- _law_stepped: 0 _law_order, 1 _law_level -/
def b14 : List S := [.ret (.bin .add (.bin .add (.sl (.var 0) (.non) (.bin .sub (.var 1) (.int 1))) (.tup [(.ix (.var 0) (.var 1)), (.ix (.var 0) (.bin .sub (.var 1) (.int 1)))])) (.sl (.var 0) (.bin .add (.var 1) (.int 1)) (.non)))]
/-- _law_steps: 0 _law_order, 1 _law_i -/
def b15 : List S := [.ret (.comp (.var 1) (.nm 1) .rng [(.int 1), (.b1 .len (.var 0))] (.cmp .gt (.ix (.var 0) (.bin .sub (.var 1) (.int 1))) (.ix (.var 0) (.var 1))) [1])]
/-- _law_level_rows: 0 _law_order, 1 _law_found, 2 _law_level, 3 _law_row -/
def b16 : List S := [.asg (.nm 1) (.lst []), .for_ (.nm 2) .val [(.call 15 [(.var 0)])] [.asg (.nm 1) (.bin .add (.var 1) (.comp (.bin .add (.lst [(.var 2)]) (.var 3)) (.nm 3) .val [(.call 16 [(.call 14 [(.var 0), (.var 2)])])] (.bl true) [3]))], .ret (.ife (.cmp .ne (.call 15 [(.var 0)]) (.lst [])) (.var 1) (.lst [(.lst [])]))]
/-- _law_triple: 0 _law_order, 1 _law_found, 2 _law_a, 3 _law_b, 4 _law_c -/
def b17 : List S := [.asg (.nm 1) (.lst []), .for_ (.nm 2) .rng [(.b1 .len (.var 0))] [.for_ (.nm 3) .val [(.comp (.var 3) (.nm 3) .rng [(.bin .add (.var 2) (.int 1)), (.b1 .len (.var 0))] (.cmp .lt (.ix (.var 0) (.var 3)) (.ix (.var 0) (.var 2))) [3])] [.asg (.nm 1) (.bin .add (.var 1) (.sl (.comp (.tup [(.var 2), (.var 3), (.var 4)]) (.nm 4) .rng [(.bin .add (.var 3) (.int 1)), (.b1 .len (.var 0))] (.cmp .lt (.ix (.var 0) (.var 4)) (.ix (.var 0) (.var 3))) [4]) (.non) (.int 1)))], .ite (.cmp .ne (.var 1) (.lst [])) [.ret (.ix (.var 1) (.int 0))] []], .ret (.non)]
/-- _law_drawn_plain: 0 _law_source_here, 1 _law_n, 2 _law_some, 3 _law_one, 4 _law_other, 5 _law_k -/
def b18 : List S := [.asg (.nm 2) (.comp (.call 10 [(.var 0), (.int 2)]) (.nm 5) .rng [(.var 1)] (.bl true) [5]), .par [3, 4] [(.comp (.var 5) (.nm 5) .rng [(.var 1)] (.cmp .eq (.ix (.var 2) (.var 5)) (.int 0)) [5]), (.comp (.var 5) (.nm 5) .rng [(.var 1)] (.cmp .eq (.ix (.var 2) (.var 5)) (.int 1)) [5])], .ret (.b1 .tuple (.comp (.ife (.or (.and (.cmp .eq (.call 10 [(.var 0), (.int 2)]) (.int 0)) (.cmp .ne (.var 3) (.lst []))) (.cmp .eq (.var 4) (.lst []))) (.pop 3 (.int 0)) (.pop 4 (.int 0))) (.nm 5) .rng [(.var 1)] (.bl true) [5]))]
/-- law: 0 _law_script, 1 _law_source_here, 2 _law_lap, 3 _law_order, 4 _law_many, 5 _law_n, 6 _law_due, 7 _law_lots, 8 _law_row, 9 _law_level, 10 _law_lot -/
def b19 : List S := [.asg (.nm 1) (.call 9 [(.var 0)]), .for_ (.nm 2) .rng [(.int 5)] [.asg (.nm 5) (.ix (.lst [(.call 10 [(.var 1), (.int 4)]), (.int 4), (.bin .add (.int 4) (.call 10 [(.var 1), (.int 2)])), (.bin .add (.int 6) (.call 10 [(.var 1), (.int 25)])), (.int 5)]) (.var 2)), .asg (.nm 3) (.ife (.cmp .eq (.call 10 [(.var 1), (.int 3)]) (.int 0)) (.call 18 [(.var 1), (.var 5)]) (.call 12 [(.var 1), (.var 5)])), .asg (.nm 6) (.call 17 [(.var 3)]), .ite (.or (.cmp .ne (.b1 .repr (.call 7 [(.var 3)])) (.b1 .repr (.var 6))) (.cmp .ne (.b1 .repr (.call 8 [(.var 3)])) (.b1 .repr (.cmp .is (.var 6) (.non))))) [.ret (.bl false)] [], .ite (.and (.cmp .lt (.var 5) (.int 6)) (.cmp .lt (.call 13 [(.var 3)]) (.int 9))) [.asg (.nm 7) (.comp (.b1 .sorted (.var 8)) (.nm 8) .val [(.call 16 [(.var 3)])] (.bl true) [8]), .ite (.cmp .ne (.cmp .eq (.comp (.var 10) (.nm 10) .val [(.var 7)] (.cmp .ne (.var 10) (.ix (.var 7) (.int 0))) [10]) (.lst [])) (.call 8 [(.var 3)])) [.ret (.bl false)] []] [], .ite (.and (.cmp .is (.var 6) (.non)) (.cmp .ne (.comp (.var 9) (.nm 9) .val [(.call 15 [(.var 3)])] (.not (.call 8 [(.call 14 [(.var 3), (.var 9)])])) [9]) (.lst []))) [.ret (.bl false)] []], .asg (.nm 3) (.call 18 [(.var 1), (.int 6)]), .asg (.nm 4) (.call 5 [(.var 3)]), .ite (.or (.not (.call 8 [(.var 3)])) (.cmp .ne (.b1 .sorted (.call 6 [(.var 3), (.bin .sub (.var 4) (.int 1))])) (.b1 .sorted (.call 6 [(.var 3), (.int 0)])))) [.ret (.bl false)] [], .ret (.and (.cmp .eq (.call 7 [(.tup [(.int 2), (.int 1), (.int 0)])]) (.tup [(.int 0), (.int 1), (.int 2)])) (.and (.cmp .eq (.call 7 [(.tup [(.int 3), (.int 0), (.int 2), (.int 1)])]) (.tup [(.int 0), (.int 2), (.int 3)])) (.call 8 [(.tup [])])))]
def tab : Fn → Option Ent
  | .f 0 => some (.fd ⟨1, 1, b0⟩)
  | .f 1 => some (.fd ⟨2, 2, b1⟩)
  | .f 2 => some (.fd ⟨1, 2, b2⟩)
  | .f 3 => some (.fd ⟨2, 2, b3⟩)
  | .f 4 => some (.fd ⟨2, 4, b4⟩)
  | .f 5 => some (.fd ⟨1, 1, b5⟩)
  | .f 6 => some (.fd ⟨2, 7, b6⟩)
  | .f 7 => some (.fd ⟨1, 5, b7⟩)
  | .f 8 => some (.fd ⟨1, 1, b8⟩)
  | .f 9 => some (.fd ⟨1, 3, b9⟩)
  | .f 10 => some (.fd ⟨2, 4, b10⟩)
  | .f 11 => some (.fd ⟨2, 4, b11⟩)
  | .f 12 => some (.fd ⟨2, 5, b12⟩)
  | .f 13 => some (.fd ⟨1, 3, b13⟩)
  | .f 14 => some (.fd ⟨2, 2, b14⟩)
  | .f 15 => some (.fd ⟨1, 2, b15⟩)
  | .f 16 => some (.fd ⟨1, 4, b16⟩)
  | .f 17 => some (.fd ⟨1, 5, b17⟩)
  | .f 18 => some (.fd ⟨2, 6, b18⟩)
  | .f 19 => some (.fd ⟨1, 11, b19⟩)
  | _ => none
end K
set_option maxHeartbeats 0
namespace K
open PySem PySem.Spec PyProof.Rows L2 VI
def top (i : Nat) : Stmt := PySem.Challenge.pw_codenests_k48_whole_plain_orders.main.body.getD i (.Pass ⟨0, 0, 0, 0⟩)
def bodyOf : Stmt → List Stmt
  | .ClassDef (body := b) .. => b
  | _ => []
def inn (i j : Nat) : Stmt := (bodyOf (top i)).getD j (.Pass ⟨0, 0, 0, 0⟩)
def gl : List (Str × Nat × Nat) := [(("is_number" : Str), (0 : Nat), (1 : Nat)), (("is_level" : Str), (1 : Nat), (2 : Nat)), (("sorting_steps" : Str), (2 : Nat), (1 : Nat)), (("stepped" : Str), (3 : Nat), (2 : Nat)), (("counted" : Str), (4 : Nat), (2 : Nat)), (("count_rows" : Str), (5 : Nat), (1 : Nat)), (("row_at" : Str), (6 : Nat), (2 : Nat)), (("falling_places" : Str), (7 : Nat), (1 : Nat)), (("is_plain" : Str), (8 : Nat), (1 : Nat)), (("_law_source" : Str), (9 : Nat), (1 : Nat)), (("_law_pick" : Str), (10 : Nat), (2 : Nat)), (("_law_mixed" : Str), (11 : Nat), (2 : Nat)), (("_law_any_order" : Str), (12 : Nat), (2 : Nat)), (("_law_inversions" : Str), (13 : Nat), (1 : Nat)), (("_law_stepped" : Str), (14 : Nat), (2 : Nat)), (("_law_steps" : Str), (15 : Nat), (1 : Nat)), (("_law_level_rows" : Str), (16 : Nat), (1 : Nat)), (("_law_triple" : Str), (17 : Nat), (1 : Nat)), (("_law_drawn_plain" : Str), (18 : Nat), (2 : Nat)), (("law" : Str), (19 : Nat), (1 : Nat))]
def bt : List Str := ["len", "tuple", "list", "int", "abs", "sum", "any", "all", "repr", "max", "min", "isinstance", "range", "enumerate", "reversed", "zip", "bool", "str", "dict", "sorted"]
def xcs : List XcE := [("TooGreat", 100, none)]
def xms : List XmE := []
def xd100 : ExD := ⟨"TooGreat", 100, none, "TooGreat.__init__", defArgs (inn 3 0), ["self"], defBody (inn 3 0), defScope (inn 3 0)⟩
theorem oke100 : ExS PySem.Challenge.pw_codenests_k48_whole_plain_orders xd100 := ⟨by kernel_rfl, by kernel_rfl, by kernel_rfl, by kernel_rfl, fun _ _ _ _ _ _ _ us hl => match us, hl with | [_], _ => rfl⟩
def xs : List ExD := [xd100]
def tbs : Tbs := ⟨gl, bt, [], [], [], [], xcs, xms, [], [], [(29, 20), (31, 8), (31, 59), (32, 11), (34, 26), (36, 4), (36, 26), (37, 32), (41, 50)]⟩
theorem ok0 : DefOk tab tbs "is_number" "is_number" (defArgs (top 6)) (defBody (top 6)) (defScope (top 6)) (.f 0) 1 :=
  ⟨false, ["value"], ["value"], b0, ⟨rfl, rfl, rfl, by decide +kernel, rfl, by decide +kernel, by decide +kernel⟩, by decide, rfl, by kernel_rfl, by kernel_rfl, fun _ _ _ _ _ _ us hl => match us, hl with | [_], _ => rfl⟩
theorem ok1 : DefOk tab tbs "is_level" "is_level" (defArgs (top 8)) (defBody (top 8)) (defScope (top 8)) (.f 1) 2 :=
  ⟨false, ["n", "value"], ["n", "value"], b1, ⟨rfl, rfl, rfl, by decide +kernel, rfl, by decide +kernel, by decide +kernel⟩, by decide, rfl, by kernel_rfl, by kernel_rfl, fun _ _ _ _ _ _ us hl => match us, hl with | [_, _], _ => rfl⟩
theorem ok2 : DefOk tab tbs "sorting_steps" "sorting_steps" (defArgs (top 9)) (defBody (top 9)) (defScope (top 9)) (.f 2) 1 :=
  ⟨false, ["order", "level"], ["order"], b2, ⟨rfl, rfl, rfl, by decide +kernel, rfl, by decide +kernel, by decide +kernel⟩, by decide, rfl, by kernel_rfl, by kernel_rfl, fun _ _ _ _ _ _ us hl => match us, hl with | [_], _ => rfl⟩
theorem ok3 : DefOk tab tbs "stepped" "stepped" (defArgs (top 10)) (defBody (top 10)) (defScope (top 10)) (.f 3) 2 :=
  ⟨false, ["order", "level"], ["order", "level"], b3, ⟨rfl, rfl, rfl, by decide +kernel, rfl, by decide +kernel, by decide +kernel⟩, by decide, rfl, by kernel_rfl, by kernel_rfl, fun _ _ _ _ _ _ us hl => match us, hl with | [_, _], _ => rfl⟩
theorem ok4 : DefOk tab tbs "counted" "counted" (defArgs (top 12)) (defBody (top 12)) (defScope (top 12)) (.f 4) 2 :=
  ⟨false, ["order", "known", "steps", "level"], ["order", "known"], b4, ⟨rfl, rfl, rfl, by decide +kernel, rfl, by decide +kernel, by decide +kernel⟩, by decide, rfl, by kernel_rfl, by kernel_rfl, fun _ _ _ _ _ _ us hl => match us, hl with | [_, _], _ => rfl⟩
theorem ok5 : DefOk tab tbs "count_rows" "count_rows" (defArgs (top 13)) (defBody (top 13)) (defScope (top 13)) (.f 5) 1 :=
  ⟨false, ["order"], ["order"], b5, ⟨rfl, rfl, rfl, by decide +kernel, rfl, by decide +kernel, by decide +kernel⟩, by decide, rfl, by kernel_rfl, by kernel_rfl, fun _ _ _ _ _ _ us hl => match us, hl with | [_], _ => rfl⟩
theorem ok6 : DefOk tab tbs "row_at" "row_at" (defArgs (top 14)) (defBody (top 14)) (defScope (top 14)) (.f 6) 2 :=
  ⟨false, ["order", "number", "known", "found", "left", "level", "here"], ["order", "number"], b6, ⟨rfl, rfl, rfl, by decide +kernel, rfl, by decide +kernel, by decide +kernel⟩, by decide, rfl, by kernel_rfl, by kernel_rfl, fun _ _ _ _ _ _ us hl => match us, hl with | [_, _], _ => rfl⟩
theorem ok7 : DefOk tab tbs "falling_places" "falling_places" (defArgs (top 15)) (defBody (top 15)) (defScope (top 15)) (.f 7) 1 :=
  ⟨false, ["order", "a", "high", "b", "c"], ["order"], b7, ⟨rfl, rfl, rfl, by decide +kernel, rfl, by decide +kernel, by decide +kernel⟩, by decide, rfl, by kernel_rfl, by kernel_rfl, fun _ _ _ _ _ _ us hl => match us, hl with | [_], _ => rfl⟩
theorem ok8 : DefOk tab tbs "is_plain" "is_plain" (defArgs (top 16)) (defBody (top 16)) (defScope (top 16)) (.f 8) 1 :=
  ⟨false, ["order"], ["order"], b8, ⟨rfl, rfl, rfl, by decide +kernel, rfl, by decide +kernel, by decide +kernel⟩, by decide, rfl, by kernel_rfl, by kernel_rfl, fun _ _ _ _ _ _ us hl => match us, hl with | [_], _ => rfl⟩
theorem ok9 : DefOk tab tbs "_law_source" "_law_source" (defArgs (top 18)) (defBody (top 18)) (defScope (top 18)) (.f 9) 1 :=
  ⟨true, ["_law_script", "_law_mixed_here", "_law_cell"], ["_law_script"], b9, ⟨rfl, rfl, rfl, by decide +kernel, rfl, by decide +kernel, by decide +kernel⟩, by decide, rfl, by kernel_rfl, by kernel_rfl, fun _ _ _ _ _ _ us hl => match us, hl with | [_], _ => rfl⟩
theorem ok10 : DefOk tab tbs "_law_pick" "_law_pick" (defArgs (top 19)) (defBody (top 19)) (defScope (top 19)) (.f 10) 2 :=
  ⟨true, ["_law_source_here", "_law_many", "_law_left", "_law_mixed_here"], ["_law_source_here", "_law_many"], b10, ⟨rfl, rfl, rfl, by decide +kernel, rfl, by decide +kernel, by decide +kernel⟩, by decide, rfl, by kernel_rfl, by kernel_rfl, fun _ _ _ _ _ _ us hl => match us, hl with | [_, _], _ => rfl⟩
theorem ok11 : DefOk tab tbs "_law_mixed" "_law_mixed" (defArgs (top 20)) (defBody (top 20)) (defScope (top 20)) (.f 11) 2 :=
  ⟨false, ["_law_source_here", "_law_things", "_law_rest", "_law_lap"], ["_law_source_here", "_law_things"], b11, ⟨rfl, rfl, rfl, by decide +kernel, rfl, by decide +kernel, by decide +kernel⟩, by decide, rfl, by kernel_rfl, by kernel_rfl, fun _ _ _ _ _ _ us hl => match us, hl with | [_, _], _ => rfl⟩
theorem ok12 : DefOk tab tbs "_law_any_order" "_law_any_order" (defArgs (top 21)) (defBody (top 21)) (defScope (top 21)) (.f 12) 2 :=
  ⟨false, ["_law_source_here", "_law_n", "_law_turn", "_law_order", "_law_k"], ["_law_source_here", "_law_n"], b12, ⟨rfl, rfl, rfl, by decide +kernel, rfl, by decide +kernel, by decide +kernel⟩, by decide, rfl, by kernel_rfl, by kernel_rfl, fun _ _ _ _ _ _ us hl => match us, hl with | [_, _], _ => rfl⟩
theorem ok13 : DefOk tab tbs "_law_inversions" "_law_inversions" (defArgs (top 22)) (defBody (top 22)) (defScope (top 22)) (.f 13) 1 :=
  ⟨false, ["_law_order", "_law_a", "_law_b"], ["_law_order"], b13, ⟨rfl, rfl, rfl, by decide +kernel, rfl, by decide +kernel, by decide +kernel⟩, by decide, rfl, by kernel_rfl, by kernel_rfl, fun _ _ _ _ _ _ us hl => match us, hl with | [_], _ => rfl⟩
theorem ok14 : DefOk tab tbs "_law_stepped" "_law_stepped" (defArgs (top 23)) (defBody (top 23)) (defScope (top 23)) (.f 14) 2 :=
  ⟨false, ["_law_order", "_law_level"], ["_law_order", "_law_level"], b14, ⟨rfl, rfl, rfl, by decide +kernel, rfl, by decide +kernel, by decide +kernel⟩, by decide, rfl, by kernel_rfl, by kernel_rfl, fun _ _ _ _ _ _ us hl => match us, hl with | [_, _], _ => rfl⟩
theorem ok15 : DefOk tab tbs "_law_steps" "_law_steps" (defArgs (top 24)) (defBody (top 24)) (defScope (top 24)) (.f 15) 1 :=
  ⟨false, ["_law_order", "_law_i"], ["_law_order"], b15, ⟨rfl, rfl, rfl, by decide +kernel, rfl, by decide +kernel, by decide +kernel⟩, by decide, rfl, by kernel_rfl, by kernel_rfl, fun _ _ _ _ _ _ us hl => match us, hl with | [_], _ => rfl⟩
theorem ok16 : DefOk tab tbs "_law_level_rows" "_law_level_rows" (defArgs (top 25)) (defBody (top 25)) (defScope (top 25)) (.f 16) 1 :=
  ⟨false, ["_law_order", "_law_found", "_law_level", "_law_row"], ["_law_order"], b16, ⟨rfl, rfl, rfl, by decide +kernel, rfl, by decide +kernel, by decide +kernel⟩, by decide, rfl, by kernel_rfl, by kernel_rfl, fun _ _ _ _ _ _ us hl => match us, hl with | [_], _ => rfl⟩
theorem ok17 : DefOk tab tbs "_law_triple" "_law_triple" (defArgs (top 26)) (defBody (top 26)) (defScope (top 26)) (.f 17) 1 :=
  ⟨false, ["_law_order", "_law_found", "_law_a", "_law_b", "_law_c"], ["_law_order"], b17, ⟨rfl, rfl, rfl, by decide +kernel, rfl, by decide +kernel, by decide +kernel⟩, by decide, rfl, by kernel_rfl, by kernel_rfl, fun _ _ _ _ _ _ us hl => match us, hl with | [_], _ => rfl⟩
theorem ok18 : DefOk tab tbs "_law_drawn_plain" "_law_drawn_plain" (defArgs (top 27)) (defBody (top 27)) (defScope (top 27)) (.f 18) 2 :=
  ⟨false, ["_law_source_here", "_law_n", "_law_some", "_law_one", "_law_other", "_law_k"], ["_law_source_here", "_law_n"], b18, ⟨rfl, rfl, rfl, by decide +kernel, rfl, by decide +kernel, by decide +kernel⟩, by decide, rfl, by kernel_rfl, by kernel_rfl, fun _ _ _ _ _ _ us hl => match us, hl with | [_, _], _ => rfl⟩
theorem ok19 : DefOk tab tbs "law" "law" (defArgs (top 28)) (defBody (top 28)) (defScope (top 28)) (.f 19) 1 :=
  ⟨false, ["_law_script", "_law_source_here", "_law_lap", "_law_order", "_law_many", "_law_n", "_law_due", "_law_lots", "_law_row", "_law_level", "_law_lot"], ["_law_script"], b19, ⟨rfl, rfl, rfl, by decide +kernel, rfl, by decide +kernel, by decide +kernel⟩, by decide, rfl, by kernel_rfl, by kernel_rfl, fun _ _ _ _ _ _ us hl => match us, hl with | [_], _ => rfl⟩
/-! the head's run stands ahead of the walks: the kernel's memory -/
def clsNm : Nat → Str
  | 100 => "TooGreat"
  | _ => ""
def fn : List He.DefD := [⟨("is_number", none), "is_number", "is_number", defArgs (top 6), defBody (top 6), defScope (top 6), [], []⟩, ⟨("is_level", none), "is_level", "is_level", defArgs (top 8), defBody (top 8), defScope (top 8), [], []⟩, ⟨("sorting_steps", none), "sorting_steps", "sorting_steps", defArgs (top 9), defBody (top 9), defScope (top 9), [], []⟩, ⟨("stepped", none), "stepped", "stepped", defArgs (top 10), defBody (top 10), defScope (top 10), [], []⟩, ⟨("counted", none), "counted", "counted", defArgs (top 12), defBody (top 12), defScope (top 12), [], []⟩, ⟨("count_rows", none), "count_rows", "count_rows", defArgs (top 13), defBody (top 13), defScope (top 13), [], []⟩, ⟨("row_at", none), "row_at", "row_at", defArgs (top 14), defBody (top 14), defScope (top 14), [], []⟩, ⟨("falling_places", none), "falling_places", "falling_places", defArgs (top 15), defBody (top 15), defScope (top 15), [], []⟩, ⟨("is_plain", none), "is_plain", "is_plain", defArgs (top 16), defBody (top 16), defScope (top 16), [], []⟩, ⟨("_law_source", none), "_law_source", "_law_source", defArgs (top 18), defBody (top 18), defScope (top 18), [], []⟩, ⟨("_law_pick", none), "_law_pick", "_law_pick", defArgs (top 19), defBody (top 19), defScope (top 19), [], []⟩, ⟨("_law_mixed", none), "_law_mixed", "_law_mixed", defArgs (top 20), defBody (top 20), defScope (top 20), [], []⟩, ⟨("_law_any_order", none), "_law_any_order", "_law_any_order", defArgs (top 21), defBody (top 21), defScope (top 21), [], []⟩, ⟨("_law_inversions", none), "_law_inversions", "_law_inversions", defArgs (top 22), defBody (top 22), defScope (top 22), [], []⟩, ⟨("_law_stepped", none), "_law_stepped", "_law_stepped", defArgs (top 23), defBody (top 23), defScope (top 23), [], []⟩, ⟨("_law_steps", none), "_law_steps", "_law_steps", defArgs (top 24), defBody (top 24), defScope (top 24), [], []⟩, ⟨("_law_level_rows", none), "_law_level_rows", "_law_level_rows", defArgs (top 25), defBody (top 25), defScope (top 25), [], []⟩, ⟨("_law_triple", none), "_law_triple", "_law_triple", defArgs (top 26), defBody (top 26), defScope (top 26), [], []⟩, ⟨("_law_drawn_plain", none), "_law_drawn_plain", "_law_drawn_plain", defArgs (top 27), defBody (top 27), defScope (top 27), [], []⟩, ⟨("law", none), "law", "law", defArgs (top 28), defBody (top 28), defScope (top 28), [], []⟩]
def fa : List He.Fa := [.glo "is_number", .glo "is_level", .glo "sorting_steps", .glo "stepped", .glo "counted", .glo "count_rows", .glo "row_at", .glo "falling_places", .glo "is_plain", .glo "_law_source", .glo "_law_pick", .glo "_law_mixed", .glo "_law_any_order", .glo "_law_inversions", .glo "_law_stepped", .glo "_law_steps", .glo "_law_level_rows", .glo "_law_triple", .glo "_law_drawn_plain", .glo "law", .free "len", .free "tuple", .free "list", .free "int", .free "abs", .free "sum", .free "any", .free "all", .free "repr", .free "max", .free "min", .free "isinstance", .free "range", .free "enumerate", .free "reversed", .free "zip", .free "bool", .free "str", .free "dict", .free "sorted"]
abbrev R : PySem.W.OpenRow := PySem.W.OpenLaw.row PySem.Challenge.rw_codenests_k48_whole_plain_orders
abbrev hk : PySem.W.Hook := hookE R.prog 6 fa fn xs clsNm xms
def ob (s : PySem.W.SharedT) : AlE := obsE R.prog fa fn xs clsNm xms (frE 6 (HandSHeadRun.getT s))
theorem ob_eq (s : PySem.W.SharedT) : ob s = hk.obs s.abs := obsE_eq (HandSHeadRun.getT_eq s)
theorem run (w : World) : HandSHeadRun.RunEq R (PySem.W.view R.prog [28]) hk ob 20000 ([("NameMissing" : PySem.Str), ("NestError" : PySem.Str), ("NoLevel" : PySem.Str), ("TooGreat" : PySem.Str), ("__name__" : PySem.Str), ("_law_any_order" : PySem.Str), ("_law_drawn_plain" : PySem.Str), ("_law_inversions" : PySem.Str), ("_law_level_rows" : PySem.Str), ("_law_mixed" : PySem.Str), ("_law_pick" : PySem.Str), ("_law_source" : PySem.Str), ("_law_stepped" : PySem.Str), ("_law_steps" : PySem.Str), ("_law_triple" : PySem.Str), ("count_rows" : PySem.Str), ("counted" : PySem.Str), ("falling_places" : PySem.Str), ("is_level" : PySem.Str), ("is_number" : PySem.Str), ("is_plain" : PySem.Str), ("row_at" : PySem.Str), ("sorting_steps" : PySem.Str), ("stepped" : PySem.Str)] : List Str) w := by
  intro os
  kernel_rfl
end K
set_option Elab.async false
set_option linter.all false
set_option maxRecDepth 100000
set_option maxHeartbeats 0
namespace K
open PySem VI L2
def fuel : Nat := 100000
abbrev C (k : Nat) : Cal := ⟨callD tab fuel k, fuel⟩
/-- an order of 0 .. n - 1 -/
structure Ord (l : List Nat) : Prop where
  perm : l.Perm (List.range l.length)
  len : l.length ≤ 1000
theorem Ord.mem {l : List Nat} (o : Ord l) {x : Nat} : x ∈ l ↔ x < l.length := by rw [o.perm.mem_iff, List.mem_range]
theorem Ord.small {l : List Nat} (o : Ord l) : ∀ i ∈ l, i < 10 ^ 12 := fun i hi => by have := o.mem.mp hi; have := o.len; omega
theorem rngL_nat (a b : Nat) : rngL (a : Int) (b : Int) = dn (List.range' a (b - a)) := by
  unfold rngL dn
  rw [List.range'_eq_map_range, List.map_map]
  have e : ((b : Int) - (a : Int)).toNat = b - a := by omega
  rw [e]
  refine List.map_congr_left fun i _ => ?_
  show D.int _ = D.int _
  congr 1
theorem len_ev {C : Cal} {i : Nat} {ρ : Rho} {S : So} {xs : List D} (h : slD? ρ i = some (.tup xs)) : ev C (.b1 .len (.var i)) ρ S = .ok (.fz (.int (xs.length : Nat))) ρ S := ev_b1 (op_var h) h rfl
end K
namespace K
open PySem VI L2
theorem big (k : Nat) : 1000 < (C k).fuel := by show 1000 < fuel; unfold fuel; decide
theorem ev_callK {k n : Nat} {es : List E} {ds : List D} {ρ ρ1 : Rho} {S S1 S2 : So} {v : Vl} (ha : evs (C k) es ρ S = .ok ds ρ1 S1) (h : callD tab fuel k (.f n) ds S1 = .ok v S2) : ev (C k) (.call n es) ρ S = .ok v ρ1 S2 := ev_call ha h
/-- a draw -/
theorem run10 {k : Nat} (m : Nat) (hm : m < 1000000) {s : Src} (g : s.Good) : ∃ (n : Nat) (s' : Src), callD tab fuel (k + 1) (.f 10) [.src, .int (m : Nat)] (some s) = .ok (.fz (.int (n : Nat))) (some s') ∧ s'.Good ∧ n < max 1 m := by
  obtain ⟨n, s', ρ, e, g', h1, h2⟩ := pick_ok (C k) (big k) (m : Nat) (by omega) (by omega) s g
  have en : ((n.toNat : Nat) : Int) = n := Int.toNat_of_nonneg h1
  refine ⟨n.toNat, s', ?_, g', by omega⟩
  have eb : exs (C k) b10 (ini 4 [.src, .int (m : Nat)]) (some s) = .rt (.fz (.int n)) ρ (some s') := e
  show fin (exs (C k) b10 (ini 4 [.src, .int (m : Nat)]) (some s)) = _
  rw [eb, en]
  rfl
theorem run9 {k : Nat} (ns : List Int) (h : ns.length ≤ 1000) : ∃ s : Src, callD tab fuel (k + 1) (.f 9) [.scr ns] none = .ok (.fz .src) (some s) ∧ s.Good := by
  obtain ⟨s, ρ, e, g⟩ := source_ok (C k) ns h
  refine ⟨s, ?_, g⟩
  have eb : exs (C k) b9 (ini 3 [.scr ns]) none = .rt (.fz .src) ρ (some s) := e
  show fin (exs (C k) b9 (ini 3 [.scr ns]) none) = _
  rw [eb]
  rfl
theorem dn_reverse (l : List Nat) : (dn l).reverse = dn l.reverse := List.map_reverse.symm
end K
namespace K
open PySem VI L2
theorem ev_pop {C : Cal} {i n : Nat} {e : E} {ρ ρ1 : Rho} {S S1 : So} {v : Vl} {xs : List D} {j : Int} {d : D} (h0 : isOw ρ i = true) (h : ev C e ρ S = .ok v ρ1 S1) (h1 : ow? ρ1 i = some xs) (h2 : int? v.d = some j) (h3 : ixN xs.length j = some n) (h4 : xs[n]? = some d) :
    ev C (.pop i e) ρ S = .ok (.fz d) (ρ1.set i (some (.ow (xs.eraseIdx n)))) S1 := by
  rw [ev, if_pos h0, h, Rs.bind_ok, h1]
  show (lift (int? v.d) ρ1 S1).bind _ = _
  rw [h2]
  show (lift (ixN xs.length j) ρ1 S1).bind _ = _
  rw [h3]
  show (lift (xs[n]?) ρ1 S1).bind _ = _
  rw [h4]
  rfl
theorem ixN_nat {n i : Nat} (h : i < n) : ixN n ((i : Nat) : Int) = some i := by
  unfold ixN
  rw [if_pos (by omega), if_pos (by omega), Int.toNat_natCast]
def popE : E := .pop 2 (.call 10 [(.var 0), (.b1 .len (.var 2))])
theorem popE_ev {k : Nat} {r : List Nat} (h0 : r ≠ []) (hl : r.length < 1000000) {s : Src} (g : s.Good) (th x : Sl) : ∃ (n : Nat) (s' : Src), n < r.length ∧ s'.Good ∧
    ev (C (k + 1)) popE [some (.fz .src), th, some (.ow (dn r)), x] (some s) = .ok (.fz (.int ((r.getD n 0 : Nat) : Int))) [some (.fz .src), th, some (.ow (dn (r.eraseIdx n))), x] (some s') := by
  obtain ⟨n, s', e, g', hn⟩ := run10 (k := k) r.length hl g
  have hp : 0 < r.length := List.length_pos_iff.mpr h0
  have hn : n < r.length := by omega
  refine ⟨n, s', hn, g', ?_⟩
  have c0 : ev (C (k + 1)) (.b1 .len (.var 2)) [some (.fz .src), th, some (.ow (dn r)), x] (some s) = .ok (.fz (.int (r.length : Nat))) [some (.fz .src), th, some (.ow (dn r)), x] (some s) := by
    have q := ev_b1 (C := C (k + 1)) (o := .len) (S := some s) (op_var (C := C (k + 1)) (i := 2) (d := .lst (dn r)) (ρ := [some (.fz .src), th, some (.ow (dn r)), x]) rfl) rfl rfl
    rw [dn_length] at q
    exact q
  have c1 : ev (C (k + 1)) (.call 10 [(.var 0), (.b1 .len (.var 2))]) [some (.fz .src), th, some (.ow (dn r)), x] (some s) = .ok (.fz (.int (n : Nat))) [some (.fz .src), th, some (.ow (dn r)), x] (some s') :=
    ev_callK (k := k + 1) (evs_cons (ev_var rfl) (evs_cons c0 evs_nil)) e
  have c2 : (dn r)[n]? = some (.int ((r.getD n 0 : Nat) : Int)) := by
    rw [dn_get, List.getElem?_eq_getElem hn, List.getD_eq_getElem?_getD, List.getElem?_eq_getElem hn]
    rfl
  have c3 : (dn r).eraseIdx n = dn (r.eraseIdx n) := by
    unfold dn
    rw [List.eraseIdx_eq_take_drop_succ, List.eraseIdx_eq_take_drop_succ, List.map_append, List.map_take, List.map_drop]
  have q := ev_pop (i := 2) (n := n) rfl c1 rfl rfl (ixN_nat (by rw [dn_length]; exact hn)) c2
  rw [c3] at q
  exact q
theorem erase_perm {r : List Nat} {n : Nat} (h : n < r.length) : (r.getD n 0 :: r.eraseIdx n).Perm r := by
  rw [List.getD_eq_getElem?_getD, List.getElem?_eq_getElem h, Option.getD_some, List.eraseIdx_eq_take_drop_succ]
  have e : r = r.take n ++ r[n] :: r.drop (n + 1) := by
    rw [← List.drop_eq_getElem_cons h, List.take_append_drop]
  conv => rhs; rw [e]
  exact List.perm_middle.symm
theorem trn_pop {k : Nat} {r : List Nat} (h0 : r ≠ []) (hl : r.length < 1000000) {s : Src} (g : s.Good) (th : Sl) (d : D) : ∃ (n : Nat) (s' : Src), n < r.length ∧ s'.Good ∧
    trn (C (k + 1)) (.nm 3) (.bl true) popE d [some (.fz .src), th, some (.ow (dn r)), none] (some s) = .ok (some (.int ((r.getD n 0 : Nat) : Int))) [some (.fz .src), th, some (.ow (dn (r.eraseIdx n))), some (.fz d)] (some s') := by
  obtain ⟨n, s', hn, g', e⟩ := popE_ev (k := k) h0 hl g th (some (.fz d))
  refine ⟨n, s', hn, g', ?_⟩
  have e5 : ev (C (k + 1)) (.bl true) ([some (.fz .src), th, some (.ow (dn r)), none].set 3 (some (.fz d))) (some s) = .ok (.fz (.bl true)) [some (.fz .src), th, some (.ow (dn r)), some (.fz d)] (some s) := by rw [ev]; rfl
  rw [trn_t e5 e]
  rfl
/-- the laps: all are drawn -/
theorem laps {k : Nat} (th : Sl) (ds : List D) : ∀ (r : List Nat) (acc : List D) (x : Sl) (s : Src), ds.length = r.length → r.length < 1000000 → acc.length + r.length ≤ lim → s.Good → ∃ (r' : List Nat) (x' : Sl) (s' : Src), r'.Perm r ∧ s'.Good ∧
    cmpl (trn (C (k + 1)) (.nm 3) (.bl true) popE) [3] ds acc [some (.fz .src), th, some (.ow (dn r)), x] (some s) = .ok (acc ++ dn r') [some (.fz .src), th, some (.ow (dn [])), x'] (some s') := by
  induction ds with
  | nil =>
    intro r acc x s hl _ _ g
    obtain rfl : r = [] := List.length_eq_zero_iff.mp hl.symm
    exact ⟨[], x, s, List.Perm.refl _, g, by rw [cmpl]; show _ = Rs.ok (acc ++ []) _ _; rw [List.append_nil]⟩
  | cons d ds ih =>
    intro r acc x s hl hb ha g
    rw [List.length_cons] at hl
    have h0 : r ≠ [] := by rintro rfl; cases hl
    obtain ⟨n, s1, hn, g1, e⟩ := trn_pop (k := k) h0 hb g th d
    have le : (r.eraseIdx n).length = r.length - 1 := List.length_eraseIdx_of_lt hn
    obtain ⟨r', x', s', p, g', e2⟩ := ih (r.eraseIdx n) (acc ++ [.int ((r.getD n 0 : Nat) : Int)]) (some (.fz d)) s1 (by rw [le]; omega) (by omega) (by rw [List.length_append, List.length_singleton, le]; omega) g1
    refine ⟨r.getD n 0 :: r', x', s', (p.cons _).trans (erase_perm hn), g', ?_⟩
    have ew : wipeR [some (.fz .src), th, some (.ow (dn r)), x] [3] = [some (.fz .src), th, some (.ow (dn r)), none] := rfl
    rw [cmpl, ew, e]
    show (if acc.length < lim then _ else _) = _
    rw [if_pos (by omega), e2, List.append_assoc]
    rfl
end K
namespace K
open PySem VI L2
theorem ev_compS {C : Cal} {me mc : E} {t : Tg} {kk : ItK} {args : List E} {own : List Nat} {ρ ρ1 ρe : Rho} {S S1 S2 : So} {ds items acc : List D} (h1 : evs C args ρ S = .ok ds ρ1 S1) (h2 : itD kk ds = some items) (h3 : cmpl (trn C t mc me) own items [] ρ1 S1 = .ok acc ρe S2) :
    ev C (.comp me t kk args mc own) ρ S = .ok (.ow acc) (backR ρ1 ρe own) S2 := by
  rw [ev, h1, Rs.bind_ok, h2]
  show (cmpl (trn C t mc me) own items [] ρ1 S1).bind _ = _
  rw [h3]
  rfl
/-- _law_mixed -/
theorem run11 {k : Nat} (l : List Nat) (hl : l.length ≤ 1000) {s : Src} (g : s.Good) : ∃ (l' : List Nat) (s' : Src), callD tab fuel (k + 2) (.f 11) [.src, .lst (dn l)] (some s) = .ok (.ow (dn l')) (some s') ∧ s'.Good ∧ l'.Perm l := by
  obtain ⟨l', x', s', p, g', e⟩ := laps (k := k) (some (.fz (.lst (dn l)))) (dn (List.range l.length)) l [] none s (by rw [dn_length, List.length_range]) (by omega) (by rw [List.length_nil]; unfold lim; omega) g
  rw [List.nil_append] at e
  refine ⟨l', s', ?_, g', p⟩
  have c0 : ex (C (k + 1)) (.asg (.nm 2) (.b1 .list (.var 1))) [some (.fz .src), some (.fz (.lst (dn l))), none, none] (some s) = .nx [some (.fz .src), some (.fz (.lst (dn l))), some (.ow (dn l)), none] (some s) :=
    ex_asg (ev_b1 (op_var (d := .lst (dn l)) rfl) rfl rfl)
  have c1 : ev (C (k + 1)) (.b1 .len (.var 2)) [some (.fz .src), some (.fz (.lst (dn l))), some (.ow (dn l)), none] (some s) = .ok (.fz (.int (l.length : Nat))) [some (.fz .src), some (.fz (.lst (dn l))), some (.ow (dn l)), none] (some s) := by
    have q := ev_b1 (C := C (k + 1)) (o := .len) (S := some s) (op_var (C := C (k + 1)) (i := 2) (d := .lst (dn l)) (ρ := [some (.fz .src), some (.fz (.lst (dn l))), some (.ow (dn l)), none]) rfl) rfl rfl
    rw [dn_length] at q
    exact q
  have c2 : itD .rng [.int (l.length : Nat)] = some (dn (List.range l.length)) := by
    rw [← rngL_dn]
    exact rng_one (by omega)
  have c3 := ev_compS (me := popE) (own := [3]) (evs_cons c1 evs_nil) c2 e
  have n2 : ∀ i, E.comp popE (.nm 3) .rng [(.b1 .len (.var 2))] (.bl true) [3] ≠ .var i := fun i z => by cases z
  have c4 := ex_ret n2 c3
  have eb7 : b11 = [.asg (.nm 2) (.b1 .list (.var 1)), .ret (.comp popE (.nm 3) .rng [(.b1 .len (.var 2))] (.bl true) [3])] := rfl
  have ei : ini 4 [.src, .lst (dn l)] = [some (.fz .src), some (.fz (.lst (dn l))), none, none] := rfl
  show fin (exs (C (k + 1)) b11 (ini 4 [.src, .lst (dn l)]) (some s)) = _
  rw [eb7, ei, exs_cons c0 (exs_rt c4)]
  rfl
end K
set_option Elab.async false
set_option linter.all false
set_option maxRecDepth 100000
set_option maxHeartbeats 0
namespace K
open PySem VI L2
def steps (l : List Nat) : List Nat := (List.range' 1 (l.length - 1)).filter fun i => decide (l.getD i 0 < l.getD (i - 1) 0)
def stepF (l : List Nat) : D → Option D
  | .int i => if l.getD i.toNat 0 < l.getD (i.toNat - 1) 0 then some (.int i) else none
  | _ => none
theorem stepF_nat (l : List Nat) (i : Nat) : stepF l (.int (i : Nat)) = if l.getD i 0 < l.getD (i - 1) 0 then some (.int (i : Nat)) else none := by
  show (if l.getD ((i : Nat) : Int).toNat 0 < l.getD (((i : Nat) : Int).toNat - 1) 0 then _ else none) = _
  rw [Int.toNat_natCast]
theorem step_map (l : List Nat) : ∀ ys : List Nat, (dn ys).filterMap (stepF l) = dn (ys.filter fun i => decide (l.getD i 0 < l.getD (i - 1) 0))
  | [] => rfl
  | y :: ys => by
    have ih := step_map l ys
    rw [dn, List.map_cons, List.filterMap_cons, stepF_nat, List.filter_cons]
    by_cases h : l.getD y 0 < l.getD (y - 1) 0
    · rw [if_pos h, if_pos (decide_eq_true h)]
      show _ :: (dn ys).filterMap (stepF l) = _
      rw [ih]
      rfl
    · rw [if_neg h, if_neg (by rw [decide_eq_false h]; exact Bool.false_ne_true)]
      exact ih
def stC : E := .cmp .gt (.ix (.var 0) (.bin .sub (.var 1) (.int 1))) (.ix (.var 0) (.var 1))
theorem stC_ev {k : Nat} {l : List Nat} {i : Nat} (h1 : 1 ≤ i) (h2 : i < l.length) (S : So) (q : Bool) (hq : q = decide (l.getD i 0 < l.getD (i - 1) 0)) : ev (C k) stC [some (.fz (.tup (dn l))), some (.fz (.int (i : Nat)))] S = .ok (.fz (.bl q)) [some (.fz (.tup (dn l))), some (.fz (.int (i : Nat)))] S := by
  have b1 : ev (C k) (.bin .sub (.var 1) (.int 1)) [some (.fz (.tup (dn l))), some (.fz (.int (i : Nat)))] S = .ok (.fz (.int ((i - 1 : Nat) : Int))) [some (.fz (.tup (dn l))), some (.fz (.int (i : Nat)))] S := by
    have e : ((i : Nat) : Int) - 1 = ((i - 1 : Nat) : Int) := by omega
    rw [← e]
    exact ev_bin (op_var (d := .int (i : Nat)) rfl) (op_val (fun i z => by cases z) ev_int) (dx := .int (i : Nat)) rfl (dy := .int 1) rfl rfl
  have i1 : ev (C k) (.ix (.var 0) (.bin .sub (.var 1) (.int 1))) [some (.fz (.tup (dn l))), some (.fz (.int (i : Nat)))] S = .ok (.fz (.int ((l.getD (i - 1) 0 : Nat) : Int))) [some (.fz (.tup (dn l))), some (.fz (.int (i : Nat)))] S :=
    ev_ix (op_var (d := .tup (dn l)) rfl) (op_val (fun i z => by cases z) b1) (dx := .tup (dn l)) rfl (dy := .int ((i - 1 : Nat) : Int)) rfl (ix_dn (by omega))
  have i2 : ev (C k) (.ix (.var 0) (.var 1)) [some (.fz (.tup (dn l))), some (.fz (.int (i : Nat)))] S = .ok (.fz (.int ((l.getD i 0 : Nat) : Int))) [some (.fz (.tup (dn l))), some (.fz (.int (i : Nat)))] S :=
    ev_ix (op_var (d := .tup (dn l)) rfl) (op_var (d := .int (i : Nat)) rfl) (dx := .tup (dn l)) rfl (dy := .int (i : Nat)) rfl (ix_dn h2)
  refine ev_cmp (op_val (fun i z => by cases z) i1) (op_val (fun i z => by cases z) i2) (dx := .int ((l.getD (i - 1) 0 : Nat) : Int)) rfl (dy := .int ((l.getD i 0 : Nat) : Int)) rfl ?_
  refine congrArg some ?_
  rw [hq, Bool.eq_iff_iff, decide_eq_true_iff, decide_eq_true_iff]
  omega
/-- _law_steps -/
theorem run15 {k : Nat} {l : List Nat} (hl : l.length ≤ 1000) (S : So) : callD tab fuel (k + 1) (.f 15) [.tup (dn l)] S = .ok (.ow (dn (steps l))) S := by
  have c1 : ev (C k) (.comp (.var 1) (.nm 1) .rng [(.int 1), (.b1 .len (.var 0))] stC [1]) [some (.fz (.tup (dn l))), none] S = .ok (.ow (dn (steps l))) [some (.fz (.tup (dn l))), none] S := by
    unfold steps
    rw [← step_map]
    refine ev_comp (evs_cons ev_int (evs_cons (len_ev rfl) evs_nil)) (items := dn (List.range' 1 (l.length - 1))) ?_ (by rw [dn_length, List.length_range']; unfold lim; omega) fun d hd => ?_
    · have q := rng_two (a := 1) (b := l.length) (by omega) (by omega)
      rw [rngL_nat] at q
      rw [dn_length]
      exact q
    · obtain ⟨i, hi, rfl⟩ := List.mem_map.mp hd
      have hi := List.mem_range'_1.mp hi
      rw [stepF_nat]
      by_cases h : l.getD i 0 < l.getD (i - 1) 0
      · rw [if_pos h]
        exact ⟨[some (.fz (.tup (dn l))), some (.fz (.int (i : Nat)))], trn_t (stC_ev (by omega) (by omega) S true (decide_eq_true h).symm) (ev_var rfl), rfl⟩
      · rw [if_neg h]
        exact ⟨[some (.fz (.tup (dn l))), some (.fz (.int (i : Nat)))], trn_f (stC_ev (by omega) (by omega) S false (decide_eq_false h).symm), rfl⟩
  have n2 : ∀ i, E.comp (.var 1) (.nm 1) .rng [(.int 1), (.b1 .len (.var 0))] stC [1] ≠ .var i := fun i z => by cases z
  have c2 := ex_ret n2 c1
  have e1 : b15 = [.ret (.comp (.var 1) (.nm 1) .rng [(.int 1), (.b1 .len (.var 0))] stC [1])] := rfl
  have e2 : ini 2 [.tup (dn l)] = [some (.fz (.tup (dn l))), none] := rfl
  show fin (exs (C k) b15 (ini 2 [.tup (dn l)]) S) = _
  rw [e1, e2, exs_rt c2]
  rfl
end K
namespace K
open PySem VI L2
/-- sorting_steps -/
theorem run2 {k : Nat} {l : List Nat} (hl : l.length ≤ 1000) (S : So) : callD tab fuel (k + 1) (.f 2) [.tup (dn l)] S = .ok (.ow (dn (steps l))) S := by
  have c1 : ev (C k) (.comp (.var 1) (.nm 1) .rng [(.int 1), (.b1 .len (.var 0))] stC [1]) [some (.fz (.tup (dn l))), none] S = .ok (.ow (dn (steps l))) [some (.fz (.tup (dn l))), none] S := by
    unfold steps
    rw [← step_map]
    refine ev_comp (evs_cons ev_int (evs_cons (len_ev rfl) evs_nil)) (items := dn (List.range' 1 (l.length - 1))) ?_ (by rw [dn_length, List.length_range']; unfold lim; omega) fun d hd => ?_
    · have q := rng_two (a := 1) (b := l.length) (by omega) (by omega)
      rw [rngL_nat] at q
      rw [dn_length]
      exact q
    · obtain ⟨i, hi, rfl⟩ := List.mem_map.mp hd
      have hi := List.mem_range'_1.mp hi
      rw [stepF_nat]
      by_cases h : l.getD i 0 < l.getD (i - 1) 0
      · rw [if_pos h]
        exact ⟨[some (.fz (.tup (dn l))), some (.fz (.int (i : Nat)))], trn_t (stC_ev (by omega) (by omega) S true (decide_eq_true h).symm) (ev_var rfl), rfl⟩
      · rw [if_neg h]
        exact ⟨[some (.fz (.tup (dn l))), some (.fz (.int (i : Nat)))], trn_f (stC_ev (by omega) (by omega) S false (decide_eq_false h).symm), rfl⟩
  have n2 : ∀ i, E.comp (.var 1) (.nm 1) .rng [(.int 1), (.b1 .len (.var 0))] stC [1] ≠ .var i := fun i z => by cases z
  have c2 := ex_ret n2 c1
  have e1 : b2 = [.ret (.comp (.var 1) (.nm 1) .rng [(.int 1), (.b1 .len (.var 0))] stC [1])] := rfl
  have e2 : ini 2 [.tup (dn l)] = [some (.fz (.tup (dn l))), none] := rfl
  show fin (exs (C k) b2 (ini 2 [.tup (dn l)]) S) = _
  rw [e1, e2, exs_rt c2]
  rfl
end K
namespace K
open PySem VI L2
def stepped (l : List Nat) (i : Nat) : List Nat := l.take (i - 1) ++ [l.getD i 0, l.getD (i - 1) 0] ++ l.drop (i + 1)
theorem stepped_perm {l : List Nat} {i : Nat} (h1 : 1 ≤ i) (h2 : i < l.length) : (stepped l i).Perm l := by
  have g1 : l.getD i 0 = l[i] := by rw [List.getD_eq_getElem?_getD, List.getElem?_eq_getElem h2]; rfl
  have g2 : l.getD (i - 1) 0 = l[i - 1] := by rw [List.getD_eq_getElem?_getD, List.getElem?_eq_getElem (by omega)]; rfl
  have d1 : l.drop (i - 1) = l[i - 1] :: l.drop (i - 1 + 1) := List.drop_eq_getElem_cons (by omega)
  have e : i - 1 + 1 = i := by omega
  have d2 : l.drop i = l[i] :: l.drop (i + 1) := List.drop_eq_getElem_cons h2
  rw [e, d2] at d1
  unfold stepped
  rw [g1, g2, List.append_assoc]
  have t : l = l.take (i - 1) ++ (l[i - 1] :: l[i] :: l.drop (i + 1)) := by rw [← d1, List.take_append_drop]
  conv => rhs; rw [t]
  exact List.Perm.append_left _ (List.Perm.swap _ _ _)
theorem stepped_len {l : List Nat} {i : Nat} (h1 : 1 ≤ i) (h2 : i < l.length) : (stepped l i).length = l.length := (stepped_perm h1 h2).length_eq
theorem Ord.step {l : List Nat} (o : Ord l) {i : Nat} (h1 : 1 ≤ i) (h2 : i < l.length) : Ord (stepped l i) :=
  ⟨by rw [stepped_len h1 h2]; exact (stepped_perm h1 h2).trans o.perm, by rw [stepped_len h1 h2]; exact o.len⟩
end K
namespace K
open PySem VI L2
theorem part_non {C : Cal} {ρ : Rho} {S : So} : part .non ρ S (ev C .non ρ S) = .ok none ρ S := rfl
theorem part_int {C : Cal} {e : E} {ρ ρ1 : Rho} {S S1 : So} {i : Int} (hn : e ≠ .non) (h : ev C e ρ S = .ok (.fz (.int i)) ρ1 S1) : part e ρ S (ev C e ρ S) = .ok (some i) ρ1 S1 := by
  have q : part e ρ S (ev C e ρ S) = (ev C e ρ S).bind fun v ρ S => match v with
    | .fz (.int i) => .ok (some i) ρ S
    | _ => .no := by
    cases e <;> first | rfl | exact absurd rfl hn
  rw [q, h]
  rfl
theorem ev_sl {C : Cal} {a lo hi : E} {ρ ρ1 ρ2 ρ3 : Rho} {S S1 S2 S3 : So} {x : Opd} {l h : Option Int} {d : D} {v : Vl} (ha : opd a ρ S (ev C a ρ S) = .ok x ρ1 S1) (hl : part lo ρ1 S1 (ev C lo ρ1 S1) = .ok l ρ2 S2) (hh : part hi ρ2 S2 (ev C hi ρ2 S2) = .ok h ρ3 S3) (hx : x.get ρ3 = some d) (hv : slD d l h = some v) :
    ev C (.sl a lo hi) ρ S = .ok v ρ3 S3 := by
  rw [ev, ha, Rs.bind_ok, hl, Rs.bind_ok, hh, Rs.bind_ok, hx, Option.bind_some, hv]
  rfl
end K
set_option Elab.async false
set_option linter.all false
set_option maxRecDepth 100000
set_option maxHeartbeats 0
open PySem VI L2
-- the steps: each is called by fail "name" (a local rule stands for it)
local macro_rules | `(tactic| fail "v_at") => `(tactic| first | exact at_fz (by rfl) | exact at_ow (by rfl))
local macro_rules | `(tactic| fail "v_gt") => `(tactic| first | exact gt_fz | exact gt_ow | exact gt_vl | (apply gt_sl; fail "v_at"))
local macro_rules | `(tactic| fail "v_gts") => `(tactic| first | exact gts_nil | (apply gts_cons; fail "v_gt"; fail "v_gts"))
local macro_rules | `(tactic| fail "v_put") => `(tactic| first | exact put_z | (apply put_s; fail "v_put"))
local macro_rules | `(tactic| fail "v_side") => `(tactic| first | omega | assumption | decide)
local macro_rules | `(tactic| fail "v_om") => `(tactic| first | omega | (simp only [List.length_range, List.length_range', List.length_set, dn_length, List.length_append, List.length_reverse, List.length_nil, List.length_cons, Int.toNat_natCast, lim]; omega))
local macro_rules | `(tactic| fail "v_bin") => `(tactic| with_reducible first | exact bin_add | exact bin_sub | exact bin_mod (by fail "v_side") | exact bin_fdiv ⟨by fail "v_side", by fail "v_side"⟩ | exact bin_mul (by fail "v_side") | exact bin_zeros (by fail "v_side"))
local macro_rules | `(tactic| fail "v_cmp") => `(tactic| with_reducible first | exact cmp_eq_int | exact cmp_ne_int | exact cmp_eq_str | exact cmp_ne_str | exact cmp_lt | exact cmp_le | exact cmp_gt | exact cmp_ge | exact cmp_is | exact cmp_isn | exact cmp_eq_T0)
local macro_rules | `(tactic| fail "v_b1") => `(tactic| with_reducible first | exact b1_lenL | exact b1_lenT | exact b1_tupL | exact b1_tupT | exact b1_lstL | exact b1_lstT | exact b1_int | exact rev_L | exact rev_T | exact sl_L | exact sl_T)
local macro_rules | `(tactic| fail "v_or") => `(tactic| first | refine or2_t ?_ | refine or2_f ?_ | refine or2_n ?_ | (with_reducible refine or2_r ?_) | (refine or2_d (fun hb => ?_) (fun hb => ?_) <;> try (exfalso; omega)))
local macro_rules | `(tactic| fail "v_no") => `(tactic| focus (intro i z; cases z; done))
local macro_rules | `(tactic| fail "v_ev") => `(tactic| first
  | (apply we_var; focus rfl) | refine we_int ?_ | refine we_bl ?_ | refine we_str ?_ | refine we_non ?_
  | (apply we_varO; (focus rfl); fail "v_put")
  | refine we_bin ?_ | refine we_ix ?_ | refine we_cmp ?_ | refine we_and ?_ | refine we_or ?_ | refine we_not ?_ | refine we_chn ?_ | refine we_isi ?_ | refine we_neg ?_
  | refine we_ife ?_ | refine we_sl ?_ | refine we_rev ?_ | refine we_b1 ?_ | refine we_b2 ?_ | refine we_trng ?_ | refine we_lrng ?_ | refine we_index ?_ | refine we_call ?_ | refine we_bcall ?_
  | refine we_tup ?_ | refine we_lst ?_ | refine we_std ?_ | refine we_irg ?_ | refine we_fld ?_ | refine we_dic ?_ | refine we_key ?_ | refine we_meth ?_ | refine we_make ?_ | (apply we_pop; focus rfl) | refine we_dnew ?_ | refine we_din ?_ | refine we_dget ?_ | refine we_dkeys ?_ | refine we_kix ?_ | refine we_kget ?_)
local macro_rules | `(tactic| fail "v_wb") => `(tactic| first
  | refine wb_cmp ?_ | refine wb_and ?_ | refine wb_or ?_ | refine wb_not ?_ | refine wb_chn ?_ | refine wb_bl ?_ | refine wb_isi ?_ | refine wb_din ?_ | refine wb_of ?_)
local macro_rules | `(tactic| fail "v_op") => `(tactic| first
  | (apply wo_var; fail "v_at") | (apply wo_val; fail "v_no")
  | (apply op2_; fail "v_gt"; fail "v_gt"; fail "v_bin")
  | (apply op3_; fail "v_gt"; fail "v_gt"; fail "v_cmp")
  | (apply op1_; fail "v_gt"; fail "v_b1") | (apply op1_; fail "v_gt"; exact keyD_of (by rfl))
  | refine wp_non ?_ | (apply wp_int; focus (intro z; cases z; done))
  | (refine wl_nil ?_; try dsimp only [d_fz, d_ow]) | refine wl_cons ?_ | refine wol_nil ?_ | refine wol_cons ?_ | ((with_reducible apply gts_); fail "v_gts") | ((with_reducible apply nol_); (focus (first | exact noL_dn _ | rfl))) | refine wv_nil ?_ | refine wv_cons ?_ | refine wls_nil ?_ | refine wls_F ?_ | refine wls_T ?_ | ((with_reducible apply itm_); (focus rfl)) | ((with_reducible apply irg_ex); (focus (first | exact irg_F | exact irg_T))))
local macro_rules | `(tactic| fail "v_st") => `(tactic| first
  | refine wss_nil ?_ | refine wss_cons ?_
  | refine ws_asg ?_ | refine ws_asgT ?_ | refine ws_par ?_ | refine ws_ite ?_ | refine ws_for ?_ | refine ws_whl ?_
  | (apply ws_retV; focus rfl) | (apply ws_ret; fail "v_no") | refine ws_retn ?_ | refine ws_pss ?_ | refine ws_brk ?_ | refine ws_cnt ?_ | refine ws_ex ?_
  | (apply ws_app; focus rfl) | (apply ws_ext; focus rfl) | (apply ws_mov; (focus rfl); fail "v_put"; fail "v_put") | refine ws_sti ?_ | refine ws_sw ?_ | refine ws_rse0 ?_ | refine ws_rse1 ?_ | refine ws_try ?_ | refine ws_dput ?_ | (apply ws_aug; (focus rfl); fail "v_at"))
local macro_rules | `(tactic| fail "v_nx") => `(tactic| first
  | refine sq_nx ?_ | refine sq_rt ?_ | refine sq_bk ?_ | refine sq_ct ?_
  | refine tq_nx ?_ | refine tq_ct ?_ | refine tq_bk ?_ | refine tq_rt ?_
  | refine fq_rt ?_ | refine fq_nx ?_
  | ((with_reducible apply rse_); (focus rfl)) | refine sq_rs ?_ | refine tq_rs ?_ | refine fq_rs ?_ | (with_reducible refine xr_ ?_) | refine hq_nx ?_ | refine hq_rt ?_ | refine hq_bk ?_ | refine hq_ct ?_ | ((with_reducible apply hq_ret); (focus rfl); (focus rfl); (focus rfl)) | ((with_reducible apply hq_retn); (focus rfl); (focus rfl)) | ((with_reducible apply hq_asg); (focus rfl); (focus rfl); (focus rfl))
  | ((with_reducible apply put_); fail "v_put") | refine bl_ ?_ | refine int_ ?_ | refine ob_ (by rfl) ?_ | refine fld_ (by rfl) ?_ | ((with_reducible apply dic_); (focus rfl); (focus decide +kernel)) | ((with_reducible apply isobj_); (focus rfl)) | refine wpr_nil ?_ | refine wpr_let ?_ | refine wpr_chk ?_ | refine wpr_rs ?_ | refine rq_rs ?_ | (apply isa_; fail "v_gt"; focus rfl) | (apply isaO_; fail "v_gt"; (focus rfl); (focus rfl)))
local macro_rules | `(tactic| fail "v_len") => `(tactic| ((with_reducible apply lim_); (focus (first | (simp only [List.length_cons, List.length_nil]; decide; done) | assumption | (simp [lim]; done))); try dsimp only [d_fz, d_ow]))
local macro_rules | `(tactic| fail "v_lim") => `(tactic| first | assumption | (simp only [List.length_append, List.length_cons, List.length_nil, List.length_map, dn_length, lim]; omega))
local macro_rules | `(tactic| fail "v_sets") => `(tactic| first | (apply sets_cons; fail "v_put"; fail "v_sets") | exact sets_nil)
local macro_rules | `(tactic| fail "v_aug") => `(tactic| first | exact aug_add | exact aug_sub | exact aug_mul (by fail "v_side") | exact aug_fdiv ⟨by fail "v_side", by fail "v_side"⟩)
local macro_rules | `(tactic| fail "v_ex") => `(tactic| first
  | ((with_reducible apply aug_ex); fail "v_at"; (focus (try dsimp only [d_fz, d_ow]); fail "v_aug"); fail "v_put")
  | ((with_reducible apply sets_ex); fail "v_sets") | ((with_reducible apply app_ex); (focus rfl); fail "v_put"; (focus fail "v_lim")) | ((with_reducible apply ext_ex); (focus rfl); (focus rfl); fail "v_put")
  | ((with_reducible apply rng_ex); (focus with_reducible (first | exact rng_1 (by fail "v_om") | exact rng_0 (by fail "v_om"))); (focus fail "v_om")) | ((with_reducible apply it_ex); (with_reducible (first | exact it_lst | exact it_tup | exact it_rng1 (by fail "v_om") | exact it_rng2 (by fail "v_om") (by fail "v_om") | exact it_rng0 (by fail "v_om")))) | refine ds_ex ?_ | ((with_reducible apply ow_and); focus rfl) | ((with_reducible apply st_ex); (focus rfl); (focus with_reducible exact ixN_T (by fail "v_om")); fail "v_put"))
local macro_rules | `(tactic| fail "v1") => `(tactic| first
  | fail "v_call" | fail "v_st" | fail "v_op" | fail "v_ev" | fail "v_wb" | fail "v_or" | fail "v_nx" | fail "v_len" | fail "v_ex")
namespace K
local macro_rules | `(tactic| fail "v_call") => `(tactic| (apply op2_; fail "v_gt"; fail "v_gt"; with_reducible exact ix_dnT (by omega)))
theorem dn_take (l : List Nat) (n : Nat) : (dn l).take n = dn (l.take n) := List.map_take.symm
theorem dn_drop (l : List Nat) (n : Nat) : (dn l).drop n = dn (l.drop n) := List.map_drop.symm
theorem dn_append (l m : List Nat) : dn l ++ dn m = dn (l ++ m) := List.map_append.symm
/-- _law_stepped -/
theorem sp14 {k i : Nat} {l : List Nat} (hl : l.length ≤ 1000) (h1 : 1 ≤ i) (h2 : i < l.length) {S : So} {Q : Vl → So → Prop} {R : Exc → So → Prop} (q : Q (.fz (.tup (dn (stepped l i)))) S) : WC tab fuel (k + 1) (.f 14) [.tup (dn l), .int (i : Nat)] S Q R := by
  refine wc_fd (fd := ⟨2, 2, b14⟩) rfl rfl ?_
  show WSS _ b14 [some (.fz (.tup (dn l))), some (.fz (.int (i : Nat)))] S _
  unfold b14
  repeat fail "v1"
  have e1 : ((i : Nat) : Int) - 1 = ((i - 1 : Nat) : Int) := by omega
  have e2 : ((i : Nat) : Int) + 1 = ((i + 1 : Nat) : Int) := by omega
  rw [e1, Int.toNat_natCast, Int.toNat_natCast, cut_to, dn_take]
  apply op2_; fail "v_gt"; fail "v_gt"
  exact bin_addT (by rw [dn_length, List.length_take]; simp [lim]; omega)
  repeat fail "v1"
  rw [e2, cut_from, dn_drop]
  apply op2_; fail "v_gt"; fail "v_gt"
  exact bin_addT (by simp [lim, dn_length]; omega)
  repeat fail "v1"
  have e3 : dn (l.take (i - 1)) ++ [D.int ((l.getD i 0 : Nat) : Int), D.int ((l.getD (i - 1) 0 : Nat) : Int)] ++ dn (l.drop (i + 1)) = dn (stepped l i) := by
    unfold stepped
    rw [← dn_append, ← dn_append]
    rfl
  rw [e3]
  exact q
end K
open PySem VI L2
namespace K
theorem sp10 {k : Nat} {z : Int} (hz : 0 ≤ z ∧ z < 1000000) {s : Src} (g : s.Good) {Q : Vl → So → Prop} {R : Exc → So → Prop} (q : ∀ (n : Nat) (s' : Src), s'.Good → n = 0 ∨ (n : Int) < z → Q (.fz (.int (n : Nat))) (some s')) : WC tab fuel (k + 1) (.f 10) [.src, .int z] (some s) Q R := by
  have e : z = ((z.toNat : Nat) : Int) := by omega
  obtain ⟨n, s', h, g', hn⟩ := run10 (k := k) z.toNat (by omega) g
  rw [← e] at h
  exact WC.of h (q n s' g' (by omega))
theorem sp11 {k : Nat} {l : List Nat} (hl : l.length ≤ 1000) {s : Src} (g : s.Good) {Q : Vl → So → Prop} {R : Exc → So → Prop} (q : ∀ (l' : List Nat) (s' : Src), s'.Good → l'.Perm l → Q (.ow (dn l')) (some s')) : WC tab fuel (k + 2) (.f 11) [.src, .lst (dn l)] (some s) Q R := by
  obtain ⟨l', s', h, g', p⟩ := run11 (k := k) l hl g
  exact WC.of h (q l' s' g' p)
theorem swap_perm : ∀ (l : List Nat) (k : Nat), k + 1 < l.length → ((l.set k (l.getD (k + 1) 0)).set (k + 1) (l.getD k 0)).Perm l
  | [], k, h => by simp at h
  | [x], k, h => by simp at h
  | x :: y :: l, 0, _ => List.Perm.swap _ _ _
  | x :: y :: l, k + 1, h => (swap_perm (y :: l) k (by simpa using h)).cons x
theorem dn_set (l : List Nat) (k n : Nat) : (dn l).set k (.int (n : Nat)) = dn (l.set k n) := List.map_set.symm
theorem dn_rev (l : List Nat) : (dn l).reverse = dn l.reverse := dn_reverse l
local macro_rules | `(tactic| fail "v_call") => `(tactic| first | refine sp10 (by omega) (by assumption) (fun n s' g' hn => ?_) | (refine sp11 (by assumption) (by assumption) (fun l' s' g' hp => ?_)) | (apply op2_; fail "v_gt"; fail "v_gt"; with_reducible exact ix_dnL (by fail "v_om")))
theorem ord_of {n : Nat} (h : n ≤ 1000) {l : List Nat} (p : l.Perm (List.range n)) : Ord l ∧ l.length = n := by
  have e : l.length = n := by rw [p.length_eq, List.length_range]
  exact ⟨⟨by rw [e]; exact p, by omega⟩, e⟩
/-- _law_any_order -/
theorem sp12 {k n : Nat} (hn : n ≤ 1000) {s : Src} (g : s.Good) {Q : Vl → So → Prop} {R : Exc → So → Prop} (q : ∀ (l : List Nat) (s' : Src), s'.Good → Ord l → l.length = n → Q (.fz (.tup (dn l))) (some s')) : WC tab fuel (k + 3) (.f 12) [.src, .int (n : Nat)] (some s) Q R := by
  have hr : (List.range n).length ≤ 1000 := by rw [List.length_range]; exact hn
  refine wc_fd (fd := ⟨2, 5, b12⟩) rfl rfl ?_
  show WSS _ b12 [some (.fz .src), some (.fz (.int (n : Nat))), none, none, none] (some s) _
  unfold b12
  repeat' fail "v1"
  · rw [dn_rev]
    have o := ord_of hn (List.reverse_perm (List.range n))
    exact q _ _ (by assumption) o.1 o.2
  · skip
    rename_i j s2 g2 hj hb
    have e1 : ((j : Nat) : Int).toNat = j := Int.toNat_natCast j
    have e2 : (((j : Nat) : Int) + 1).toNat = j + 1 := by omega
    rw [e1, e2, dn_set, dn_set]
    have o := ord_of hn (swap_perm (List.range n) j (by rw [List.length_range]; omega))
    exact q _ _ g2 o.1 o.2
  · have o := ord_of hn (List.Perm.refl (List.range n))
    exact q _ _ (by assumption) o.1 o.2
  · have o := ord_of hn (List.Perm.refl (List.range n))
    exact q _ _ (by assumption) o.1 o.2
  · rename_i l' s2 g2 p
    have o := ord_of hn p
    exact q _ _ g2 o.1 o.2
end K
set_option Elab.async false
set_option linter.all false
set_option maxRecDepth 100000
set_option maxHeartbeats 0
open PySem VI L2
namespace K
/-! ### steps, inversions -/
theorem mem_steps {l : List Nat} {i : Nat} : i ∈ steps l ↔ (1 ≤ i ∧ i < l.length) ∧ l.getD i 0 < l.getD (i - 1) 0 := by
  unfold steps
  rw [List.mem_filter, List.mem_range'_1, decide_eq_true_iff]
  have : (1 ≤ i ∧ i < 1 + (l.length - 1)) ↔ (1 ≤ i ∧ i < l.length) := by omega
  rw [this]
theorem steps_len {l : List Nat} : (steps l).length ≤ l.length := by
  unfold steps
  refine Nat.le_trans (List.length_filter_le _ _) ?_
  rw [List.length_range']
  omega
/-- inversions -/
def cnt : List Nat → Nat
  | [] => 0
  | x :: xs => xs.countP (fun y => decide (y < x)) + cnt xs
theorem cnt_le : ∀ l : List Nat, cnt l ≤ l.length * l.length
  | [] => Nat.le_refl _
  | x :: xs => by
    have h1 := cnt_le xs
    have h2 := List.countP_le_length (p := fun y => decide (y < x)) (l := xs)
    rw [cnt, List.length_cons, Nat.succ_mul, Nat.mul_succ]
    omega
theorem cnt_swap {a b : Nat} (h : b < a) (q : List Nat) : ∀ p : List Nat, cnt (p ++ b :: a :: q) + 1 = cnt (p ++ a :: b :: q)
  | [] => by
    have h1 : ¬ a < b := by omega
    simp only [List.nil_append, cnt, List.countP_cons, decide_eq_true h, decide_eq_false h1, if_true]
    simp
    omega
  | x :: p => by
    have ih := cnt_swap h q p
    have e : (p ++ b :: a :: q).countP (fun y => decide (y < x)) = (p ++ a :: b :: q).countP (fun y => decide (y < x)) := by
      simp only [List.countP_append, List.countP_cons]
      omega
    rw [List.cons_append, List.cons_append, cnt, cnt, e]
    omega
theorem cnt_step {l : List Nat} {i : Nat} (h : i ∈ steps l) : cnt (stepped l i) + 1 = cnt l := by
  obtain ⟨⟨h1, h2⟩, h3⟩ := mem_steps.mp h
  have g1 : l.getD i 0 = l[i] := by rw [List.getD_eq_getElem?_getD, List.getElem?_eq_getElem h2]; rfl
  have g2 : l.getD (i - 1) 0 = l[i - 1] := by rw [List.getD_eq_getElem?_getD, List.getElem?_eq_getElem (by omega)]; rfl
  have d1 : l.drop (i - 1) = l[i - 1] :: l.drop (i - 1 + 1) := List.drop_eq_getElem_cons (by omega)
  have e : i - 1 + 1 = i := by omega
  have d2 : l.drop i = l[i] :: l.drop (i + 1) := List.drop_eq_getElem_cons h2
  rw [e, d2] at d1
  have t : l = l.take (i - 1) ++ (l[i - 1] :: l[i] :: l.drop (i + 1)) := by rw [← d1, List.take_append_drop]
  have q := cnt_swap (a := l[i - 1]) (b := l[i]) (by rw [← g1, ← g2]; exact h3) (l.drop (i + 1)) (l.take (i - 1))
  rw [← t] at q
  have u : stepped l i = l.take (i - 1) ++ (l[i] :: l[i - 1] :: l.drop (i + 1)) := by
    unfold stepped
    rw [g1, g2, List.append_assoc]
    rfl
  rw [u]
  exact q
/-- steps one behind the other -/
def go : List Nat → List Nat → Option (List Nat)
  | l, [] => some l
  | l, i :: r => if i ∈ steps l then go (stepped l i) r else none
theorem go_append : ∀ (r : List Nat) (l : List Nat) (i : Nat), go l (r ++ [i]) = (go l r).bind fun l' => if i ∈ steps l' then some (stepped l' i) else none
  | [], l, i => by
    show (if i ∈ steps l then some (stepped l i) else none) = _
    rfl
  | j :: r, l, i => by
    rw [List.cons_append, go, go]
    by_cases h : j ∈ steps l
    · rw [if_pos h, if_pos h, go_append r]
    · rw [if_neg h, if_neg h]
      rfl
theorem go_cnt : ∀ (r l l' : List Nat), go l r = some l' → cnt l' + r.length = cnt l
  | [], l, l', h => by cases h; rfl
  | i :: r, l, l', h => by
    rw [go] at h
    split at h
    · rename_i hi
      have q := go_cnt r _ _ h
      have z := cnt_step hi
      rw [List.length_cons]
      omega
    · cases h
theorem cnt_pos {l : List Nat} (h : steps l ≠ []) : 0 < cnt l := by
  obtain ⟨i, hi⟩ := List.exists_mem_of_ne_nil _ h
  have := cnt_step hi
  omega
/-- the least step at each turn -/
def fr : Nat → List Nat → List Nat
  | 0, _ => []
  | n + 1, l => match steps l with
    | [] => []
    | i :: _ => i :: fr n (stepped l i)
theorem fr_nil {n : Nat} {l : List Nat} (h : steps l = []) : fr n l = [] := by
  cases n with
  | zero => rfl
  | succ n => rw [fr, h]
theorem fr_cons {n i : Nat} {l r : List Nat} (h : steps l = i :: r) : fr (n + 1) l = i :: fr n (stepped l i) := by rw [fr, h]
theorem fr_len : ∀ (n : Nat) (l : List Nat), (fr n l).length ≤ n
  | 0, _ => Nat.le_refl _
  | n + 1, l => by
    rw [fr]
    split
    · exact Nat.zero_le _
    · rw [List.length_cons]
      have := fr_len n (stepped l (by assumption))
      omega
theorem fr_small : ∀ (n : Nat) (l : List Nat), ∀ i ∈ fr n l, i < l.length
  | 0, _, i, h => by cases h
  | n + 1, l, i, h => by
    rw [fr] at h
    split at h
    · cases h
    · rename_i j r e
      have hj : j ∈ steps l := by rw [e]; exact List.mem_cons_self
      have hm := (mem_steps.mp hj).1
      rcases List.mem_cons.mp h with rfl | h
      · exact hm.2
      · have := fr_small n _ i h
        rwa [stepped_len hm.1 hm.2] at this
/-! ### what is judged -/
/-- the step that a value is -/
def stp (l : List Nat) : D → Option Nat
  | .int i => if 0 ≤ i ∧ i.toNat ∈ steps l then some i.toNat else none
  | _ => none
theorem stp_some {l : List Nat} {d : D} {i : Nat} (h : stp l d = some i) : d = .int (i : Nat) ∧ i ∈ steps l := by
  cases d with
  | int z =>
    have h : (if 0 ≤ z ∧ z.toNat ∈ steps l then some z.toNat else none) = some i := h
    split at h
    · rename_i q
      obtain rfl := Option.some.inj h
      exact ⟨congrArg D.int (by omega), q.2⟩
    · cases h
  | _ => cases h
theorem stp_nat {l : List Nat} {i : Nat} (h : i ∈ steps l) : stp l (.int (i : Nat)) = some i := by
  show (if 0 ≤ ((i : Nat) : Int) ∧ ((i : Nat) : Int).toNat ∈ steps l then _ else _) = _
  rw [Int.toNat_natCast, if_pos ⟨by omega, h⟩]
/-- the first place that is no step -/
def vd : List Nat → Nat → List D → Option Nat
  | l, k, [] => if steps l = [] then none else some k
  | l, k, d :: ds => match stp l d with
    | some i => vd (stepped l i) (k + 1) ds
    | none => some k
theorem vd_end {l : List Nat} {k : Nat} : vd l k [] = if steps l = [] then none else some k := by rw [vd]
theorem vd_some {l : List Nat} {k i : Nat} {d : D} {ds : List D} (h : stp l d = some i) : vd l k (d :: ds) = vd (stepped l i) (k + 1) ds := by rw [vd, h]
theorem vd_none {l : List Nat} {k : Nat} {d : D} {ds : List D} (h : stp l d = none) : vd l k (d :: ds) = some k := by rw [vd, h]
theorem vd_go : ∀ (r l l' : List Nat) (k : Nat), go l r = some l' → steps l' = [] → vd l k (dn r) = none
  | [], l, l', k, h, e => by
    cases h
    show vd l k [] = none
    rw [vd_end, if_pos e]
  | i :: r, l, l', k, h, e => by
    rw [go] at h
    split at h
    · rename_i hi
      show vd l k (D.int (i : Nat) :: dn r) = none
      rw [vd_some (stp_nat hi)]
      exact vd_go r _ _ _ h e
    · cases h
def nD : Option Nat → D
  | none => .non
  | some k => .int (k : Nat)
def jL : Option Nat → D
  | none => .non
  | some k => .tup [.str "levels", .int (k : Nat)]
/-- the verdict -/
def jd (l : List Nat) : D → D
  | .lst ds => jL (vd l 0 ds)
  | .tup ds => jL (vd l 0 ds)
  | _ => .tup [.str "form"]
/-- 0 or more -/
def num : D → Bool
  | .int i => decide (0 ≤ i)
  | _ => false
/-- of a kind that isinstance knows -/
def Kd (d : D) : Prop := d.kind.isSome = true
theorem inD_int (i : Int) (ns : List Nat) (h : ∀ n ∈ ns, n < 10 ^ 12) : inD (.int i) (dn ns) = some (decide (0 ≤ i ∧ i.toNat ∈ ns)) := by
  have e : SeqAt.shaped (.int i) = true := by unfold SeqAt.shaped; rw [PyData.canLay0, PyData.depth]; rfl
  have e2 : SeqAt.shaped (.list (D.pys (dn ns))) = true := by
    have hs : (D.lst (dn ns)).sm 1 = true := by rw [D.sm]; exact dn_sms h 0
    have := shaped_sm hs (by decide)
    rwa [D.py] at this
  have e3 : D.plains (dn ns) = true := by
    clear h e2
    induction ns with
    | nil => rfl
    | cons n ns ih => exact ih
  have e4 : (dn ns).any (fun y => PyData.eqv y.py (D.int i).py) = decide (0 ≤ i ∧ i.toNat ∈ ns) := by
    clear h e2 e3
    induction ns with
    | nil => simp [dn]
    | cons n ns ih =>
      show ((D.int (n : Nat) :: dn ns).any _) = _
      rw [List.any_cons, ih]
      have q : PyData.eqv (D.int (n : Nat)).py (D.int i).py = decide (((n : Nat) : Int) = i) := by
        rw [D.py, D.py, PyData.eqv]
        rfl
      rw [q, Bool.eq_iff_iff]
      simp only [Bool.or_eq_true, decide_eq_true_eq, List.mem_cons]
      constructor
      · rintro (h | h)
        · exact ⟨by omega, .inl (by omega)⟩
        · exact ⟨h.1, .inr h.2⟩
      · rintro ⟨h1, h | h⟩
        · exact .inl (by omega)
        · exact .inr ⟨h1, h⟩
  show ok? ((D.int i).plain && D.plains (dn ns) && SeqAt.shaped (.int i) && SeqAt.shaped (.list (D.pys (dn ns)))) _ = _
  rw [e, e2, e3, e4]
  rfl
theorem nin_int {i : Int} {ns : List Nat} (h : ∀ n ∈ ns, n < 10 ^ 12) : cmpD .nin (.int i) (.lst (dn ns)) = some (!decide (0 ≤ i ∧ i.toNat ∈ ns)) := by
  show (inD (.int i) (dn ns)).map (!·) = _
  rw [inD_int i ns h]
  rfl
/-! ### repr -/
theorem repr_gen {d : D} (h : d.plain = true) (h1 : d.py.showable = true) (h2 : d.py.leavesShort 40 = true) (h3 : 42 * d.py.weight + 40 ≤ lim) (h4 : d.py.depth ≤ 60) : b1D .repr d = some (.fz (.str d.py.shown)) := by
  have hs := PyData.shown_le 40 (by decide) d.py h2
  show ok? (d.plain && d.py.showable && decide (d.py.shown.length ≤ lim) && decide (d.py.depth ≤ 60)) (Vl.fz (.str d.py.shown)) = _
  unfold ok?
  rw [if_pos]
  simp only [h, h1, Bool.true_and, Bool.and_eq_true, decide_eq_true_eq]
  exact ⟨by omega, h4⟩
/-- an item that may stand in a level row -/
structure It (d : D) : Prop where
  kd : Kd d
  pl : d.plain = true
  sh : d.py.showable = true
  lv : d.py.leavesShort 40 = true
  wt : d.py.weight ≤ 110
  dp : d.py.depth ≤ 5
theorem It.nat {n : Nat} (h : n < 10 ^ 12) : It (.int (n : Nat)) := by
  have h40 : ((n : Nat) : Int).natAbs.log2 < 40 := log2_lt (Nat.lt_trans (by omega) (show 10 ^ 12 < 2 ^ 40 by decide)) (by decide)
  have h1 := PyData.shown_int_le (i := (n : Nat)) (by omega)
  refine ⟨rfl, rfl, ?_, ?_, ?_, by rw [D.py, PyData.depth]; omega⟩
  · rw [D.py, PyData.showable]; exact decide_eq_true (by omega)
  · rw [D.py, PyData.leavesShort]; exact decide_eq_true (by omega)
  · rw [D.py, PyData.weight]; split <;> omega
def Its (ds : List D) : Prop := ∀ d ∈ ds, It d
theorem Its.all : ∀ {ds : List D}, Its ds → D.plains ds = true ∧ PyData.showableAll (D.pys ds) = true ∧ PyData.leavesShortAll 40 (D.pys ds) = true ∧ PyData.weightAll (D.pys ds) ≤ ds.length * 111 ∧ PyData.depthAll (D.pys ds) ≤ 5
  | [], _ => by simp [D.plains, D.pys, PyData.showableAll, PyData.leavesShortAll, PyData.weightAll, PyData.depthAll]
  | d :: ds, h => by
    have a := h d List.mem_cons_self
    obtain ⟨b1, b2, b3, b70, b71⟩ := Its.all (ds := ds) fun x hx => h x (List.mem_cons_of_mem _ hx)
    refine ⟨by rw [D.plains, a.pl, b1]; rfl, by rw [D.pys, PyData.showableAll, a.sh, b2]; rfl, by rw [D.pys, PyData.leavesShortAll, a.lv, b3]; rfl, ?_, ?_⟩
    · have := a.wt
      rw [D.pys, PyData.weightAll, List.length_cons]
      omega
    · have := a.dp
      rw [D.pys, PyData.depthAll]
      omega
theorem repr_its {ds : List D} (h : Its ds) (hl : ds.length ≤ 3000) : b1D .repr (.lst ds) = some (.fz (.str (D.lst ds).py.shown)) := by
  obtain ⟨a1, a2, a3, a4, a5⟩ := h.all
  refine repr_gen (by rw [D.plain]; exact a1) (by rw [D.py, PyData.showable]; exact a2) (by rw [D.py, PyData.leavesShort]; exact a3) ?_ (by rw [D.py, PyData.depth]; omega)
  rw [D.py, PyData.weight]
  unfold lim
  omega
theorem Its.dn {ns : List Nat} (h : ∀ n ∈ ns, n < 10 ^ 12) : Its (dn ns) := fun d hd => by
  obtain ⟨n, hn, rfl⟩ := List.mem_map.mp hd
  exact It.nat (h n hn)
theorem Its.append {xs ys : List D} (h1 : Its xs) (h2 : Its ys) : Its (xs ++ ys) := fun d hd => (List.mem_append.mp hd).elim (h1 d) (h2 d)
theorem Its.sub {xs ys : List D} (h1 : Its xs) (h : ∀ d ∈ ys, d ∈ xs) : Its ys := fun d hd => h1 d (h d hd)
theorem Its.one {d : D} (h : It d) : Its [d] := fun x hx => by rw [List.mem_singleton.mp hx]; exact h
theorem repr_jd (o : Option Nat) (h : ∀ k, o = some k → k < 10 ^ 12) : b1D .repr (jL o) = some (.fz (.str (jL o).py.shown)) := by
  cases o with
  | none => exact repr_gen rfl rfl rfl (by decide) (by decide)
  | some k =>
    have q := Its.append (Its.one (d := .str "levels") ⟨rfl, rfl, by decide, by decide, by decide, by decide⟩) (Its.one (It.nat (h k rfl)))
    obtain ⟨a1, a2, a3, a4, a5⟩ := q.all
    refine repr_gen (by show (D.tup _).plain = true; rw [D.plain]; exact a1) (by show (D.tup _).py.showable = true; rw [D.py, PyData.showable]; exact a2) (by show (D.tup _).py.leavesShort 40 = true; rw [D.py, PyData.leavesShort]; exact a3) ?_ (by show (D.tup _).py.depth ≤ 60; rw [D.py, PyData.depth]; exact Nat.le_trans (Nat.succ_le_succ a5) (by decide))
    show 42 * (D.tup _).py.weight + 40 ≤ lim
    rw [D.py, PyData.weight]
    have a4 : PyData.weightAll (D.pys [.str "levels", .int (k : Nat)]) ≤ 2 * 111 := a4
    unfold lim
    omega
end K
set_option Elab.async false
set_option linter.all false
set_option maxRecDepth 100000
set_option maxHeartbeats 0
open PySem VI L2
namespace K
/-- is_number -/
theorem sp0 {k : Nat} {d : D} (hd : Kd d) {S : So} {Q : Vl → So → Prop} {R : Exc → So → Prop} (q : Q (.fz (.bl (num d))) S) : WC tab fuel (k + 1) (.f 0) [d] S Q R := by
  refine wc_fd (fd := ⟨1, 1, b0⟩) rfl rfl ?_
  show WSS _ b0 [some (.fz d)] S _
  unfold b0
  cases d with
  | obj _ _ => cases hd
  | src => cases hd
  | scr _ => cases hd
  | mem _ => cases hd
  | _ =>
    repeat' fail "v1"
    exact q
local macro_rules | `(tactic| fail "v_call") => `(tactic| (apply sp0; focus exact rfl))
/-- is_level -/
theorem sp1 {k n i : Nat} (h : 1 ≤ i ∧ i < n) {S : So} {Q : Vl → So → Prop} {R : Exc → So → Prop} (q : Q (.fz (.bl true)) S) : WC tab fuel (k + 2) (.f 1) [.int (n : Nat), .int (i : Nat)] S Q R := by
  refine wc_fd (fd := ⟨2, 2, b1⟩) rfl rfl ?_
  show WSS _ b1 [some (.fz (.int (n : Nat))), some (.fz (.int (i : Nat)))] S _
  unfold b1
  repeat' fail "v1"
  rw [decide_eq_true (show ((i : Nat) : Int) < ((n : Nat) : Int) by omega)]
  exact q
theorem sp15 {k : Nat} {l : List Nat} (hl : l.length ≤ 1000) {S : So} {Q : Vl → So → Prop} {R : Exc → So → Prop} (q : Q (.ow (dn (steps l))) S) : WC tab fuel (k + 1) (.f 15) [.tup (dn l)] S Q R := WC.of (run15 hl S) q
theorem sp2 {k : Nat} {l : List Nat} (hl : l.length ≤ 1000) {S : So} {Q : Vl → So → Prop} {R : Exc → So → Prop} (q : Q (.ow (dn (steps l))) S) : WC tab fuel (k + 1) (.f 2) [.tup (dn l)] S Q R := WC.of (run2 hl S) q
local macro_rules | `(tactic| fail "v_call") => `(tactic| first | (apply sp0; focus exact rfl) | refine sp1 (by simp only [dn_length]; omega) ?_ | (apply op2_; fail "v_gt"; fail "v_gt"; with_reducible exact ix_dnT (by omega)))
/-- stepped -/
theorem sp3 {k i : Nat} {l : List Nat} (hl : l.length ≤ 1000) (h1 : 1 ≤ i) (h2 : i < l.length) {S : So} {Q : Vl → So → Prop} {R : Exc → So → Prop} (q : Q (.fz (.tup (dn (stepped l i)))) S) : WC tab fuel (k + 3) (.f 3) [.tup (dn l), .int (i : Nat)] S Q R := by
  refine wc_fd (fd := ⟨2, 2, b3⟩) rfl rfl ?_
  show WSS _ b3 [some (.fz (.tup (dn l))), some (.fz (.int (i : Nat)))] S _
  unfold b3
  repeat fail "v1"
  have e1 : ((i : Nat) : Int) - 1 = ((i - 1 : Nat) : Int) := by omega
  have e2 : ((i : Nat) : Int) + 1 = ((i + 1 : Nat) : Int) := by omega
  rw [e1, Int.toNat_natCast, Int.toNat_natCast, cut_to, dn_take]
  apply op2_; fail "v_gt"; fail "v_gt"
  exact bin_addT (by rw [dn_length, List.length_take]; simp [lim]; omega)
  repeat fail "v1"
  rw [e2, cut_from, dn_drop]
  apply op2_; fail "v_gt"; fail "v_gt"
  exact bin_addT (by simp [lim, dn_length]; omega)
  repeat fail "v1"
  have e3 : dn (l.take (i - 1)) ++ [D.int ((l.getD i 0 : Nat) : Int), D.int ((l.getD (i - 1) 0 : Nat) : Int)] ++ dn (l.drop (i + 1)) = dn (stepped l i) := by
    unfold stepped
    rw [← dn_append, ← dn_append]
    rfl
  rw [e3]
  exact q
local macro_rules | `(tactic| fail "v_call") => `(tactic| first | (apply sp0; focus exact rfl) | (apply op2_; fail "v_gt"; fail "v_gt"; with_reducible exact ix_dnT (by (try simp only [dn_length] at *); omega)))
theorem qc {Q : Vl → So → Prop} {a b : Bool} {S : So} (q : Q (.fz (.bl a)) S) (h : a = b) : Q (.fz (.bl b)) S := by rw [← h]; exact q
end K
set_option Elab.async false
set_option linter.all false
set_option maxRecDepth 100000
set_option maxHeartbeats 0
open PySem VI L2
namespace K
theorem steps_small {l : List Nat} (hl : l.length ≤ 1000) : ∀ n ∈ steps l, n < 10 ^ 12 := fun n hn => by
  have := (mem_steps.mp hn).1
  omega
theorem dn_sm1 {l : List Nat} (h : ∀ i ∈ l, i < 10 ^ 12) : (D.lst (dn l)).sm 1 = true := by rw [D.sm]; exact dn_sms h 0
theorem dn_nb1 (l : List Nat) : (D.lst (dn l)).nbs = true := by rw [D.nbs]; exact dn_nbss l
theorem eq_nil {ns : List Nat} (h : ∀ n ∈ ns, n < 10 ^ 12) : cmpD .eq (.lst (dn ns)) (.lst []) = some (decide (ns = [])) := by
  rw [cmp_eq_sm 1 (dn_sm1 h) rfl (dn_nb1 _) rfl (by decide)]
  congr 1
  rw [Bool.eq_iff_iff]
  cases ns <;> simp [dn]
theorem ne_nil {ns : List Nat} (h : ∀ n ∈ ns, n < 10 ^ 12) : cmpD .ne (.lst (dn ns)) (.lst []) = some (!decide (ns = [])) := by
  have e : cmpD .ne (.lst (dn ns)) (.lst []) = (cmpD .eq (.lst (dn ns)) (.lst [])).map (!·) := rfl
  rw [e, eq_nil h]
  rfl
/-- the turn of an enumeration -/
theorem enum_at {ds done rest : List D} {d : D} (e : (ds.zipIdx.map fun p => D.tup [.int (p.2 : Nat), p.1]) = done ++ d :: rest) : ∃ v, ds[done.length]? = some v ∧ d = .tup [.int (done.length : Nat), v] ∧ ds.drop done.length = v :: ds.drop (done.length + 1) := by
  have hd : (ds.zipIdx.map fun p => D.tup [.int (p.2 : Nat), p.1])[done.length]? = some d := by rw [e, List.getElem?_append_right (Nat.le_refl _), Nat.sub_self]; rfl
  rw [List.getElem?_map, List.getElem?_zipIdx] at hd
  cases hx : ds[done.length]? with
  | none => rw [hx] at hd; cases hd
  | some v =>
    rw [hx] at hd
    cases hd
    have hk := (List.getElem?_eq_some_iff.mp hx).1
    refine ⟨v, rfl, by simp, ?_⟩
    rw [List.drop_eq_getElem_cons hk]
    congr 1
    exact (List.getElem?_eq_some_iff.mp hx).2
local macro_rules | `(tactic| fail "v_call") => `(tactic| first | refine sp4t (by assumption) (by assumption) (by assumption) ?_ | refine sp4f (by assumption) (by assumption) (by assumption) ?_ | refine sp3 (by assumption) (by omega) (by omega) ?_ | refine sp2 (by assumption) ?_ | (apply op3_; fail "v_gt"; fail "v_gt"; exact eq_nil (steps_small (by assumption))))
theorem jd_of {l : List Nat} {d : D} {ds : List D} (h : d.items = some ds) : jd l d = jL (vd l 0 ds) := by
  cases d with
  | lst xs => cases h; rfl
  | tup xs => cases h; rfl
  | _ => cases h
/-- what may be judged -/
def Jd (d : D) : Prop := Kd d ∧ ∀ ds, d.items = some ds → ∀ x ∈ ds, Kd x
end K
set_option Elab.async false
set_option linter.all false
set_option maxRecDepth 100000
set_option maxHeartbeats 0
open PySem VI L2
namespace K
theorem ix_last (xs : List D) (d : D) : ixD (.lst (xs ++ [d])) (.int (-1)) = some (.fz d) := by
  have h : (xs ++ [d])[xs.length]? = some d := by rw [List.getElem?_append_right (Nat.le_refl _), Nat.sub_self]; rfl
  have hx : ixN (xs ++ [d]).length (-1) = some xs.length := by
    unfold ixN
    rw [List.length_append, List.length_singleton]
    rw [if_neg (by omega), if_pos (by omega)]
    congr 1
    omega
  show (atI (xs ++ [d]) (-1)).map Vl.fz = _
  unfold atI
  rw [hx, Option.bind_some, h]
  rfl
theorem sq_nat (n : Nat) : ((n : Nat) : Int) * ((n : Nat) : Int) = ((n * n : Nat) : Int) := (Int.natCast_mul n n).symm
theorem sq_le {n : Nat} (h : n ≤ 1000) : n * n ≤ 1000000 := Nat.mul_le_mul h h
theorem dn_snoc (l : List Nat) (n : Nat) : dn l ++ [.int (n : Nat)] = dn (l ++ [n]) := dn_append l [n]
theorem ix_items {d v : D} {ds : List D} {j : Nat} (hi : d.items = some ds) (h : ds[j]? = some v) : ixD d (.int (j : Nat)) = some (.fz v) := by
  cases d with
  | lst xs => cases hi; exact ixD_lst h
  | tup xs => cases hi; exact ixD_tup h
  | _ => cases hi
/-- the turn of a range -/
theorem rng_at {n : Nat} {done rest : List D} {d : D} (e : dn (List.range n) = done ++ d :: rest) : d = .int (done.length : Nat) ∧ done.length < n := by
  have hd : (dn (List.range n))[done.length]? = some d := by rw [e, List.getElem?_append_right (Nat.le_refl _), Nat.sub_self]; rfl
  have hl : done.length < n := by
    have := congrArg List.length e
    rw [dn_length, List.length_range, List.length_append, List.length_cons] at this
    omega
  rw [dn_get, List.getElem?_range hl] at hd
  exact ⟨(Option.some.inj hd).symm, hl⟩
theorem go_small : ∀ (r l l' : List Nat), go l r = some l' → ∀ i ∈ r, i < l.length
  | [], _, _, _, i, h => by cases h
  | j :: r, l, l', h, i, hi => by
    rw [go] at h
    split at h
    · rename_i hj
      have hm := (mem_steps.mp hj).1
      rcases List.mem_cons.mp hi with rfl | hi
      · exact hm.2
      · have := go_small r _ _ h i hi
        rwa [stepped_len hm.1 hm.2] at this
    · cases h
local macro_rules | `(tactic| fail "v_call") => `(tactic| first | refine sp15 (by assumption) ?_ | refine sp14 (by assumption) (by omega) (by omega) ?_ | (apply op2_; fail "v_gt"; fail "v_gt"; with_reducible assumption) | (apply op3_; fail "v_gt"; fail "v_gt"; first | exact eq_nil (steps_small (by assumption)) | exact nin_int (steps_small (by assumption))))
end K
set_option Elab.async false
set_option linter.all false
set_option maxRecDepth 100000
set_option maxHeartbeats 0
open PySem VI L2
namespace K
theorem steps_len' {l : List Nat} (hl : l.length ≤ 1000) : (steps l).length ≤ 1000 := Nat.le_trans steps_len hl
local macro_rules | `(tactic| fail "v_call") => `(tactic| first | refine sp15 (by assumption) ?_ | refine sp14 (by assumption) (by omega) (by omega) ?_ | refine sp10n (by assumption) (steps_len' (by assumption)) (by assumption) (fun n s2 g2 hn => ?_) | (apply op2_; fail "v_gt"; fail "v_gt"; with_reducible exact ix_last _ _) | (apply op3_; fail "v_gt"; fail "v_gt"; exact ne_nil (steps_small (by assumption))))
theorem fr_go {n i : Nat} {l r : List Nat} (h : steps l = i :: r) (hn : 0 < n) : fr n l = [i] ++ fr (n - 1) (stepped l i) := by
  obtain ⟨m, rfl⟩ : ∃ m, n = m + 1 := ⟨n - 1, by omega⟩
  rw [fr_cons h]
  rfl
theorem ix_head {i : Nat} {r : List Nat} : ixD (.lst (dn (i :: r))) (.int 0) = some (.fz (.int (i : Nat))) := ixD_lst (i := 0) rfl
end K
set_option Elab.async false
set_option linter.all false
set_option maxRecDepth 100000
set_option maxHeartbeats 0
open PySem VI L2
namespace K
def nums (ds : List D) : List Nat := ds.map fun d => match d with
  | .int i => i.toNat
  | _ => 0
theorem nums_dn (l : List Nat) : nums (dn l) = l := by
  unfold nums dn
  rw [List.map_map]
  conv => rhs; rw [← List.map_id l]
  refine List.map_congr_left fun n _ => ?_
  rfl
/-- what falls at each turn -/
def ms (ρ : Rho) : Nat := match ρ with
  | some (.fz (.tup ds)) :: _ => cnt (nums ds)
  | _ => 0
theorem ms_dn (l : List Nat) (r : Rho) : ms (some (.fz (.tup (dn l))) :: r) = cnt l := by
  show cnt (nums (dn l)) = _
  rw [nums_dn]
local macro_rules | `(tactic| fail "v_call") => `(tactic| first | refine sp2 (by assumption) ?_ | refine sp3 (by assumption) (by omega) (by omega) ?_ | (apply op2_; fail "v_gt"; fail "v_gt"; with_reducible exact ix_head) | (apply op3_; fail "v_gt"; fail "v_gt"; first | exact ne_nil (by assumption) | exact ne_nil (steps_small (by assumption))))
end K
set_option Elab.async false
set_option linter.all false
set_option maxRecDepth 100000
set_option maxHeartbeats 0
open PySem VI L2
namespace K
/-! ### level rows counted -/
def kn : Nat → List Nat → Nat
  | 0, _ => 1
  | d + 1, l => if steps l = [] then 1 else ((steps l).map fun i => kn d (stepped l i)).sum
def ct (l : List Nat) : Nat := kn (cnt l) l
theorem map_cong {α β : Type} {f g : α → β} : ∀ {l : List α}, (∀ x ∈ l, f x = g x) → l.map f = l.map g
  | [], _ => rfl
  | x :: l, h => by rw [List.map_cons, List.map_cons, h x List.mem_cons_self, map_cong fun y hy => h y (List.mem_cons_of_mem _ hy)]
theorem kn_any : ∀ (d e : Nat) (l : List Nat), cnt l ≤ d → cnt l ≤ e → kn d l = kn e l
  | 0, 0, l, _, _ => rfl
  | 0, e + 1, l, h, _ => by
    have z : steps l = [] := by
      by_cases q : steps l = []
      · exact q
      · have := cnt_pos q; omega
    rw [kn, kn, if_pos z]
  | d + 1, 0, l, _, h => by
    have z : steps l = [] := by
      by_cases q : steps l = []
      · exact q
      · have := cnt_pos q; omega
    rw [kn, kn, if_pos z]
  | d + 1, e + 1, l, h, h2 => by
    rw [kn, kn]
    split
    · rfl
    · congr 1
      refine map_cong fun i hi => ?_
      have := cnt_step hi
      exact kn_any d e _ (by omega) (by omega)
theorem ct_nil {l : List Nat} (h : steps l = []) : ct l = 1 := by
  unfold ct
  cases e : cnt l with
  | zero => rfl
  | succ d => rw [kn, if_pos h]
theorem ct_step {l : List Nat} (h : steps l ≠ []) : ((steps l).map fun i => ct (stepped l i)).sum = ct l := by
  have p := cnt_pos h
  obtain ⟨d, e⟩ : ∃ d, cnt l = d + 1 := ⟨cnt l - 1, by omega⟩
  have e2 : ct l = kn (d + 1) l := by unfold ct; rw [e]
  rw [e2, kn, if_neg h]
  congr 1
  refine map_cong fun i hi => ?_
  have := cnt_step hi
  unfold ct
  exact kn_any _ _ _ (Nat.le_refl _) (by omega)
theorem sum_le {b : Nat} : ∀ {l : List Nat}, (∀ x ∈ l, x ≤ b) → l.sum ≤ l.length * b
  | [], _ => by simp
  | x :: l, h => by
    have h1 := h x List.mem_cons_self
    have h2 := sum_le fun y hy => h y (List.mem_cons_of_mem _ hy)
    rw [List.sum_cons, List.length_cons, Nat.succ_mul]
    omega
theorem kn_le : ∀ (d : Nat) (l : List Nat), l.length ≤ 6 → kn d l ≤ 6 ^ d
  | 0, _, _ => Nat.le_refl _
  | d + 1, l, h => by
    rw [kn]
    split
    · exact Nat.pos_of_ne_zero (by simp)
    · have q := sum_le (b := 6 ^ d) (l := (steps l).map fun i => kn d (stepped l i)) fun x hx => by
        obtain ⟨i, hi, rfl⟩ := List.mem_map.mp hx
        obtain ⟨⟨h1, h2⟩, _⟩ := mem_steps.mp hi
        exact kn_le d _ (by rw [stepped_len h1 h2]; exact h)
      rw [List.length_map] at q
      have := steps_len (l := l)
      have w : (steps l).length * 6 ^ d ≤ 6 * 6 ^ d := Nat.mul_le_mul_right _ (by omega)
      rw [Nat.pow_succ, Nat.mul_comm]
      omega
theorem cnt_half : ∀ l : List Nat, 2 * cnt l + l.length ≤ l.length * l.length
  | [] => Nat.le_refl _
  | x :: xs => by
    have h1 := cnt_half xs
    have h2 := List.countP_le_length (p := fun y => decide (y < x)) (l := xs)
    have e : (xs.length + 1) * (xs.length + 1) = xs.length * xs.length + 2 * xs.length + 1 := by rw [Nat.add_mul, Nat.mul_add]; omega
    rw [cnt, List.length_cons, e]
    omega
theorem cnt_15 {l : List Nat} (h : l.length ≤ 6) : cnt l ≤ 15 := by
  have h1 := cnt_half l
  have h2 : l.length * l.length ≤ 6 * l.length := Nat.mul_le_mul_right _ h
  omega
theorem ct_small {l : List Nat} (h : l.length ≤ 6) : ct l < 10 ^ 12 := by
  have h1 := kn_le (cnt l) l h
  have h2 : 6 ^ cnt l ≤ 6 ^ 15 := Nat.pow_le_pow_right (by decide) (cnt_15 h)
  unfold ct
  omega
/-! ### what is known -/
def ks (l : List Nat) : List Key := l.map fun i => Sum.inl ((i : Nat) : Int)
theorem keysK_dn : ∀ l : List Nat, keysK? (dn l) = some (ks l)
  | [] => rfl
  | x :: l => by
    show (keyK? (.int (x : Nat))).bind (fun k => (keysK? (dn l)).map (k :: ·)) = _
    rw [keysK_dn l]
    rfl
theorem keyM_dn (l : List Nat) : keyM? (.tup (dn l)) = some (ks l) := keysK_dn l
theorem ks_inj : ∀ {l m : List Nat}, ks l = ks m → l = m
  | [], [], _ => rfl
  | [], _ :: _, h => by cases h
  | _ :: _, [], h => by cases h
  | x :: l, y :: m, h => by
    unfold ks at h
    rw [List.map_cons, List.map_cons] at h
    injection h with h1 h2
    injection h1 with h1
    rw [Int.ofNat.inj h1, ks_inj h2]
theorem memG_mem {m : Mem} {k : List Key} {v : Mv} : memG m k = some v → (k, v) ∈ m := by
  induction m with
  | nil => intro h; cases h
  | cons q r ih =>
    intro h
    rw [memG] at h
    split at h
    · rename_i e
      cases h
      rw [← e]
      exact List.mem_cons_self
    · exact List.mem_cons_of_mem _ (ih h)
theorem memG_none {m : Mem} {k : List Key} : memG m k = none → k ∉ m.map (·.1) := by
  induction m with
  | nil => intro _ h; cases h
  | cons q r ih =>
    intro h
    rw [memG] at h
    split at h
    · cases h
    · rename_i e
      intro z
      rcases List.mem_cons.mp z with z | z
      · exact e z.symm
      · exact ih h z
theorem memR_keys (k : List Key) (v : Mv) : ∀ m : Mem, (memR k v m).map (·.1) = m.map (·.1)
  | [] => rfl
  | q :: r => by
    rw [memR, List.map_cons, List.map_cons, memR_keys k v r]
    congr 1
    split <;> rfl
theorem memR_mem {k : List Key} {v : Mv} : ∀ {m : Mem} {q : List Key × Mv}, q ∈ memR k v m → q ∈ m ∨ q = (k, v)
  | [], q, h => by cases h
  | p :: r, q, h => by
    rw [memR] at h
    rcases List.mem_cons.mp h with h | h
    · split at h
      · rename_i e; rw [e] at h; exact .inr h
      · exact .inl (by rw [h]; exact List.mem_cons_self)
    · exact (memR_mem h).imp (List.mem_cons_of_mem _) id
theorem memG_put (m : Mem) (k : List Key) (v : Mv) : memG (memP m k v) k = some v := by
  unfold memP
  have a : ∀ m : Mem, (memG m k).isSome = true → memG (memR k v m) k = some v := by
    intro m
    induction m with
    | nil => intro h; cases h
    | cons q r ih =>
      intro h
      rw [memG] at h
      rw [memR, memG]
      by_cases e : q.1 = k
      · rw [if_pos e]; rw [if_pos e]
      · rw [if_neg e] at h; rw [if_neg e, if_neg e]; exact ih h
  have b : ∀ m : Mem, ¬ (memG m k).isSome = true → memG (m ++ [(k, v)]) k = some v := by
    intro m
    induction m with
    | nil => intro _; rw [List.nil_append, memG, if_pos rfl]
    | cons q r ih =>
      intro h
      rw [memG] at h
      rw [List.cons_append, memG]
      by_cases e : q.1 = k
      · rw [if_pos e] at h; exact absurd rfl h
      · rw [if_neg e] at h; rw [if_neg e]; exact ih h
  split
  · exact a m (by assumption)
  · exact b m (by assumption)
/-- orders of n numbers and how many level rows they have -/
structure Mo (n : Nat) (m : Mem) : Prop where
  nd : (m.map (·.1)).Nodup
  at_ : ∀ q ∈ m, ∃ l, Ord l ∧ l.length = n ∧ q.1 = ks l ∧ q.2 = .int ((ct l : Nat) : Int)
theorem Mo.nil (n : Nat) : Mo n [] := ⟨List.nodup_nil, fun q h => by cases h⟩
theorem Mo.get {n : Nat} {m : Mem} {l : List Nat} {v : Mv} (h : Mo n m) (e : memG m (ks l) = some v) : v = .int ((ct l : Nat) : Int) := by
  obtain ⟨l', _, _, e1, e2⟩ := h.at_ _ (memG_mem e)
  have e2 : v = .int ((ct l' : Nat) : Int) := e2
  rw [e2, ks_inj e1]
theorem Mo.put {n : Nat} {m : Mem} {l : List Nat} (h : Mo n m) (o : Ord l) (hl : l.length = n) : Mo n (memP m (ks l) (.int ((ct l : Nat) : Int))) := by
  unfold memP
  split
  · refine ⟨by rw [memR_keys]; exact h.nd, fun q hq => ?_⟩
    rcases memR_mem hq with hq | rfl
    · exact h.at_ q hq
    · exact ⟨l, o, hl, rfl, rfl⟩
  · rename_i e
    have e : memG m (ks l) = none := by simpa using e
    refine ⟨?_, fun q hq => ?_⟩
    · rw [List.map_append, List.nodup_append]
      refine ⟨h.nd, by simp, fun x hx y hy z => ?_⟩
      have hy : y = ks l := by simpa using hy
      subst z
      exact memG_none e (by rw [← hy]; exact hx)
    · rcases List.mem_append.mp hq with hq | hq
      · exact h.at_ q hq
      · rw [List.mem_singleton.mp hq]
        exact ⟨l, o, hl, rfl, rfl⟩
/-- all rows of k numbers below m -/
def words (m : Nat) : Nat → List (List Nat)
  | 0 => [[]]
  | k + 1 => (List.range m).flatMap fun x => (words m k).map (x :: ·)
theorem mem_words (m : Nat) : ∀ l : List Nat, (∀ x ∈ l, x < m) → l ∈ words m l.length
  | [], _ => List.mem_singleton.mpr rfl
  | x :: l, h => List.mem_flatMap.mpr ⟨x, List.mem_range.mpr (h x List.mem_cons_self), List.mem_map.mpr ⟨l, mem_words m l fun y hy => h y (List.mem_cons_of_mem _ hy), rfl⟩⟩
theorem sum_const (b : Nat) : ∀ l : List Nat, (l.map fun _ => b).sum = l.length * b
  | [] => by simp
  | x :: l => by rw [List.map_cons, List.sum_cons, sum_const b l, List.length_cons, Nat.succ_mul]; omega
theorem words_len (m : Nat) : ∀ k : Nat, (words m k).length = m ^ k
  | 0 => rfl
  | k + 1 => by
    rw [words, List.length_flatMap]
    have e : (List.range m).map (fun x => ((words m k).map (x :: ·)).length) = (List.range m).map fun _ => m ^ k := map_cong fun x _ => by rw [List.length_map, words_len m k]
    rw [e, sum_const, List.length_range, Nat.pow_succ, Nat.mul_comm]
theorem nodup_len {α : Type} [DecidableEq α] : ∀ {l m : List α}, l.Nodup → (∀ x ∈ l, x ∈ m) → l.length ≤ m.length
  | [], _, _, _ => Nat.zero_le _
  | x :: l, m, h, s => by
    rw [List.nodup_cons] at h
    have hx := s x List.mem_cons_self
    have ih := nodup_len (l := l) (m := m.erase x) h.2 fun y hy => by
      have ne : y ≠ x := fun e => h.1 (by rw [← e]; exact hy)
      exact (List.mem_erase_of_ne ne).mpr (s y (List.mem_cons_of_mem _ hy))
    have e := List.length_erase_of_mem hx
    have p : 0 < m.length := List.length_pos_of_mem hx
    rw [List.length_cons]
    omega
theorem Mo.len {n : Nat} {m : Mem} (h : Mo n m) (hn : n ≤ 6) : m.length < lim := by
  have q := nodup_len (l := m.map (·.1)) (m := (words n n).map ks) h.nd fun k hk => by
    obtain ⟨q, hq, rfl⟩ := List.mem_map.mp hk
    obtain ⟨l, o, hl, e, _⟩ := h.at_ q hq
    rw [e]
    refine List.mem_map.mpr ⟨l, ?_, rfl⟩
    have := mem_words n l fun x hx => by rw [← hl]; exact o.mem.mp hx
    rw [hl] at this
    exact this
  rw [List.length_map, List.length_map, words_len] at q
  have h1 : n ^ n ≤ 6 ^ n := Nat.pow_le_pow_left hn n
  have h2 : 6 ^ n ≤ 6 ^ 6 := Nat.pow_le_pow_right (by decide) hn
  unfold lim
  omega
end K
set_option Elab.async false
set_option linter.all false
set_option maxRecDepth 100000
set_option maxHeartbeats 0
open PySem VI L2
namespace K
theorem ne_nil0 : cmpD .ne (.lst (dn [])) (.lst []) = some false := rfl
local macro_rules | `(tactic| fail "v_call") => `(tactic| first | (apply op3_; fail "v_gt"; fail "v_gt"; exact ne_nil0) | (apply op3_; fail "v_gt"; fail "v_gt"; exact ne_nil (steps_small (by assumption))))
/-- counted -/
theorem sp4 : ∀ (d : Nat) {k n j : Nat} {l : List Nat} {s : Src} {m : Mem}, Ord l → l.length = n → n ≤ 6 → cnt l ≤ d → s.Good → s.mem[j]? = some m → Mo n m → ∀ {Q : Vl → So → Prop} {R : Exc → So → Prop}, (∀ (s' : Src) (m' : Mem), s'.Good → s'.mem[j]? = some m' → Mo n m' → Q (.fz (.int ((ct l : Nat) : Int))) (some s')) → WC tab fuel (k + d + 4) (.f 4) [.tup (dn l), .mem j] (some s) Q R := by
  intro d
  induction d with
  | zero =>
    intro k n j l s m o hl hn hd g hm mo Q R q
    refine wc_fd (fd := ⟨2, 4, b4⟩) rfl rfl ?_
    show WSS _ b4 [some (.fz (.tup (dn l))), some (.fz (.mem j)), none, none] (some s) _
    unfold b4
    have z : steps l = [] := by
      by_cases q : steps l = []
      · exact q
      · have := cnt_pos q; omega
    have o6 : l.length ≤ 1000 := by omega
    have ey : ct l = 1 := ct_nil z
    repeat' fail "v1"
    refine ⟨j, m, s, ks l, memI_mk hm, keyM_dn l, ?_⟩
    cases e : memG m (ks l) with
    | some v =>
      refine or2_f ?_
      repeat' fail "v1"
      have ev := mo.get e
      refine ⟨j, m, s, ks l, v, memI_mk hm, keyM_dn l, e, ?_⟩
      rw [ev]
      exact sq_rt (fq_rt (q s m g hm mo))
    | none =>
      refine or2_t ?_
      repeat' fail "v1"
      refine sp2 o6 ?_
      rw [z]
      repeat' fail "v1"
      refine ⟨j, m, s, ks l, .int 1, memI_mk hm, keyM_dn l, rfl, mo.len hn, ?_⟩
      have h2 : (s.mem.set j (memP m (ks l) (.int 1)))[j]? = some (memP m (ks l) (.int 1)) := List.getElem?_set_self (List.getElem?_eq_some_iff.mp hm).1
      have mo2 := mo.put o hl
      rw [ey] at mo2
      have mo2 : Mo n (memP m (ks l) (.int 1)) := mo2
      repeat' fail "v1"
      refine ⟨j, _, _, ks l, .int 1, memI_mk h2, keyM_dn l, memG_put _ _ _, ?_⟩
      have q2 := q { s with mem := s.mem.set j (memP m (ks l) (.int 1)) } _ ⟨g.left, g.cells, g.mixed, g.turn, g.len⟩ h2 mo2
      rw [ey] at q2
      exact sq_rt (fq_rt q2)
  | succ d ih =>
    intro k n j l s m o hl hn hd g hm mo Q R q
    refine wc_fd (fd := ⟨2, 4, b4⟩) rfl rfl ?_
    show WSS _ b4 [some (.fz (.tup (dn l))), some (.fz (.mem j)), none, none] (some s) _
    unfold b4
    have o6 : l.length ≤ 1000 := by omega
    repeat' fail "v1"
    refine ⟨j, m, s, ks l, memI_mk hm, keyM_dn l, ?_⟩
    cases e : memG m (ks l) with
    | some v =>
      refine or2_f ?_
      repeat' fail "v1"
      have ev := mo.get e
      refine ⟨j, m, s, ks l, v, memI_mk hm, keyM_dn l, e, ?_⟩
      rw [ev]
      exact sq_rt (fq_rt (q s m g hm mo))
    | none =>
      refine or2_t ?_
      repeat' fail "v1"
      refine sp2 o6 ?_
      -- behind the count
      have fin : ∀ (s2 : Src) (m2 : Mem) (x2 : Sl) (x3 : Sl), s2.Good → s2.mem[j]? = some m2 → Mo n m2 → ∃ j' m' s' k' y, memI? (D.mem j) (some s2) = some (j', m', s') ∧ keyM? (.tup (dn l)) = some k' ∧ mv? (.int ((ct l : Nat) : Int)) = some y ∧ m'.length < lim ∧
          sq (CC tab fuel (k + d + 4)) [] (sq (CC tab fuel (k + d + 4)) [.ret (.dget (.var 1) (.var 0))] (fQ Q R)) (.nx [some (.fz (.tup (dn l))), some (.fz (.mem j)), x2, x3] (some { s' with mem := s'.mem.set j' (memP m' k' y) })) := fun s2 m2 x2 x3 g2 hm2 mo2 => by
        refine ⟨j, m2, s2, ks l, .int ((ct l : Nat) : Int), memI_mk hm2, keyM_dn l, rfl, mo2.len hn, ?_⟩
        have h2 : (s2.mem.set j (memP m2 (ks l) (.int ((ct l : Nat) : Int))))[j]? = some (memP m2 (ks l) (.int ((ct l : Nat) : Int))) := List.getElem?_set_self (List.getElem?_eq_some_iff.mp hm2).1
        have mo3 := mo2.put o hl
        repeat' fail "v1"
        refine ⟨j, _, _, ks l, .int ((ct l : Nat) : Int), memI_mk h2, keyM_dn l, memG_put _ _ _, ?_⟩
        exact sq_rt (fq_rt (q { s2 with mem := s2.mem.set j (memP m2 (ks l) (.int ((ct l : Nat) : Int))) } _ ⟨g2.left, g2.cells, g2.mixed, g2.turn, g2.len⟩ h2 mo3))
      repeat' fail "v1"
      · have f := fin s m (some (.ow (dn (steps l)))) none g hm mo
        rw [ct_nil (by assumption)] at f
        exact f
      · have hb : steps l ≠ [] := by assumption
        refine we_compMS (steps l) (fun i => D.int ((i : Nat) : Int)) (fun i => D.int ((ct (stepped l i) : Nat) : Int)) (fun S2 => ∃ (s2 : Src) (m2 : Mem), S2 = some s2 ∧ s2.Good ∧ s2.mem[j]? = some m2 ∧ Mo n m2) ?_
        repeat' fail "v1"
        refine ⟨rfl, by have := steps_len (l := l); simp only [lim]; omega, ⟨s, m, rfl, g, hm, mo⟩, fun i hi S2 hS => ?_, fun S2 hS => ?_⟩
        · obtain ⟨s2, m2, rfl, g2, hm2, mo2⟩ := hS
          obtain ⟨⟨h1, h2⟩, _⟩ := mem_steps.mp hi
          refine wt_ (by rfl) ?_
          repeat' fail "v1"
          refine sp3 o6 h1 h2 ?_
          repeat' fail "v1"
          exact ih (o.step h1 h2) (by rw [stepped_len h1 h2]; exact hl) hn (by have := cnt_step hi; omega) g2 hm2 mo2 fun s' m' g' hm' mo' => ⟨rfl, ⟨s', m', rfl, g', hm', mo'⟩, rfl⟩
        · obtain ⟨s2, m2, rfl, g2, hm2, mo2⟩ := hS
          have es : ((steps l).map fun i => D.int ((ct (stepped l i) : Nat) : Int)) = dn ((steps l).map fun i => ct (stepped l i)) := by
            unfold dn
            rw [List.map_map]
            rfl
          rw [es]
          refine op1_ gt_ow (b1_sum _) ?_
          rw [ct_step hb]
          repeat' fail "v1"
          exact fin s2 m2 _ _ g2 hm2 mo2
end K
set_option Elab.async false
set_option linter.all false
set_option maxRecDepth 100000
set_option maxHeartbeats 0
open PySem VI L2
namespace K
/-! ### the list of all level rows -/
def rw_ : Nat → List Nat → List (List Nat)
  | 0, _ => [[]]
  | d + 1, l => if steps l = [] then [[]] else (steps l).flatMap fun i => (rw_ d (stepped l i)).map (i :: ·)
def lr (l : List Nat) : List (List Nat) := rw_ (cnt l) l
theorem flat_cong {α β : Type} {f g : α → List β} : ∀ {l : List α}, (∀ x ∈ l, f x = g x) → l.flatMap f = l.flatMap g
  | [], _ => rfl
  | x :: l, h => by rw [List.flatMap_cons, List.flatMap_cons, h x List.mem_cons_self, flat_cong fun y hy => h y (List.mem_cons_of_mem _ hy)]
theorem rw_any : ∀ (d e : Nat) (l : List Nat), cnt l ≤ d → cnt l ≤ e → rw_ d l = rw_ e l
  | 0, 0, l, _, _ => rfl
  | 0, e + 1, l, h, _ => by
    have z : steps l = [] := by
      by_cases q : steps l = []
      · exact q
      · have := cnt_pos q; omega
    rw [rw_, rw_, if_pos z]
  | d + 1, 0, l, _, h => by
    have z : steps l = [] := by
      by_cases q : steps l = []
      · exact q
      · have := cnt_pos q; omega
    rw [rw_, rw_, if_pos z]
  | d + 1, e + 1, l, h, h2 => by
    rw [rw_, rw_]
    split
    · rfl
    · refine flat_cong fun i hi => ?_
      have := cnt_step hi
      rw [rw_any d e _ (by omega) (by omega)]
theorem lr_nil {l : List Nat} (h : steps l = []) : lr l = [[]] := by
  unfold lr
  cases e : cnt l with
  | zero => rfl
  | succ d => rw [rw_, if_pos h]
/-- the rows that begin with i -/
def ri (l : List Nat) (i : Nat) : List (List Nat) := (lr (stepped l i)).map (i :: ·)
theorem lr_step {l : List Nat} (h : steps l ≠ []) : lr l = (steps l).flatMap (ri l) := by
  have p := cnt_pos h
  obtain ⟨d, e⟩ : ∃ d, cnt l = d + 1 := ⟨cnt l - 1, by omega⟩
  have e2 : lr l = rw_ (d + 1) l := by unfold lr; rw [e]
  rw [e2, rw_, if_neg h]
  refine flat_cong fun i hi => ?_
  have := cnt_step hi
  unfold ri lr
  rw [rw_any d _ _ (by omega) (Nat.le_refl _)]
theorem len_flat {α β : Type} {f : α → List β} {c : α → Nat} : ∀ {l : List α}, (∀ x ∈ l, (f x).length = c x) → (l.flatMap f).length = (l.map c).sum
  | [], _ => rfl
  | x :: l, h => by rw [List.flatMap_cons, List.length_append, List.map_cons, List.sum_cons, h x List.mem_cons_self, len_flat fun y hy => h y (List.mem_cons_of_mem _ hy)]
theorem lr_len : ∀ (d : Nat) (l : List Nat), cnt l ≤ d → (lr l).length = ct l
  | 0, l, h => by
    have z : steps l = [] := by
      by_cases q : steps l = []
      · exact q
      · have := cnt_pos q; omega
    rw [lr_nil z, ct_nil z]
    rfl
  | d + 1, l, h => by
    by_cases z : steps l = []
    · rw [lr_nil z, ct_nil z]; rfl
    · rw [lr_step z, ← ct_step z]
      refine len_flat fun i hi => ?_
      have := cnt_step hi
      unfold ri
      rw [List.length_map, lr_len d _ (by omega)]
theorem lr_length (l : List Nat) : (lr l).length = ct l := lr_len _ l (Nat.le_refl _)
theorem ri_length (l : List Nat) (i : Nat) : (ri l i).length = ct (stepped l i) := by unfold ri; rw [List.length_map, lr_length]
/-- a level row -/
def LR (l r : List Nat) : Prop := ∃ l', go l r = some l' ∧ steps l' = []
theorem LR.nil {l : List Nat} (h : steps l = []) : LR l [] := ⟨l, rfl, h⟩
theorem LR.cons {l r : List Nat} {i : Nat} (h : i ∈ steps l) (q : LR (stepped l i) r) : LR l (i :: r) := by
  obtain ⟨l', h1, h2⟩ := q
  exact ⟨l', by rw [go, if_pos h]; exact h1, h2⟩
theorem LR.inv {l r : List Nat} {i : Nat} (q : LR l (i :: r)) : i ∈ steps l ∧ LR (stepped l i) r := by
  obtain ⟨l', h1, h2⟩ := q
  rw [go] at h1
  split at h1
  · rename_i h; exact ⟨h, l', h1, h2⟩
  · cases h1
theorem LR.inv0 {l : List Nat} (q : LR l []) : steps l = [] := by
  obtain ⟨l', h1, h2⟩ := q
  cases h1
  exact h2
theorem mem_lr : ∀ (d : Nat) {l r : List Nat}, cnt l ≤ d → (r ∈ lr l ↔ LR l r) := by
  intro d
  induction d with
  | zero =>
    intro l r h
    have z : steps l = [] := by
      by_cases q : steps l = []
      · exact q
      · have := cnt_pos q; omega
    rw [lr_nil z, List.mem_singleton]
    constructor
    · rintro rfl; exact .nil z
    · intro q
      cases r with
      | nil => rfl
      | cons i r => have := q.inv.1; rw [z] at this; cases this
  | succ d ih =>
    intro l r h
    by_cases z : steps l = []
    · rw [lr_nil z, List.mem_singleton]
      constructor
      · rintro rfl; exact .nil z
      · intro q
        cases r with
        | nil => rfl
        | cons i r => have := q.inv.1; rw [z] at this; cases this
    · rw [lr_step z, List.mem_flatMap]
      constructor
      · rintro ⟨i, hi, hr⟩
        unfold ri at hr
        obtain ⟨r', hr', rfl⟩ := List.mem_map.mp hr
        have := cnt_step hi
        exact .cons hi ((ih (by omega)).mp hr')
      · intro q
        cases r with
        | nil => exact absurd q.inv0 z
        | cons i r =>
          obtain ⟨hi, hr⟩ := q.inv
          have := cnt_step hi
          exact ⟨i, hi, List.mem_map.mpr ⟨r, (ih (by omega)).mpr hr, rfl⟩⟩
theorem lr_mem {l r : List Nat} : r ∈ lr l ↔ LR l r := mem_lr _ (Nat.le_refl _)
theorem LR.len {l r : List Nat} (q : LR l r) : r.length ≤ cnt l := by
  obtain ⟨l', h1, _⟩ := q
  have := go_cnt r l l' h1
  omega
/-- the number of a level row -/
def rn : List Nat → List Nat → Nat
  | _, [] => 0
  | l, i :: r => (((steps l).filter fun j => decide (j < i)).map fun j => ct (stepped l j)).sum + rn (stepped l i) r
theorem steps_srt (l : List Nat) : (steps l).Pairwise (· < ·) := by
  unfold steps
  exact List.Pairwise.filter _ List.pairwise_lt_range'
theorem filter_pre {i : Nat} {pre post : List Nat} (h : (pre ++ i :: post).Pairwise (· < ·)) : (pre ++ i :: post).filter (fun j => decide (j < i)) = pre := by
  obtain ⟨h1, h2, h3⟩ := List.pairwise_append.mp h
  rw [List.filter_append, List.filter_eq_self.mpr (fun j hj => decide_eq_true (h3 j hj i List.mem_cons_self)), List.filter_eq_nil_iff.mpr, List.append_nil]
  intro j hj
  rcases List.mem_cons.mp hj with rfl | hj
  · simp
  · have := (List.pairwise_cons.mp h2).1 j hj
    simp; omega
theorem flat_at {α β : Type} {f : α → List β} : ∀ {l : List α} {n : Nat} {y : β}, (l.flatMap f)[n]? = some y → ∃ pre x post m, l = pre ++ x :: post ∧ n = (pre.flatMap f).length + m ∧ (f x)[m]? = some y
  | [], n, y, h => by cases h
  | x :: l, n, y, h => by
    rw [List.flatMap_cons] at h
    rcases Nat.lt_or_ge n (f x).length with q | q
    · rw [List.getElem?_append_left q] at h
      exact ⟨[], x, l, n, rfl, by simp, h⟩
    · rw [List.getElem?_append_right q] at h
      obtain ⟨pre, x', post, m, e1, e2, e3⟩ := flat_at h
      exact ⟨x :: pre, x', post, m, by rw [e1]; rfl, by rw [List.flatMap_cons, List.length_append]; omega, e3⟩
theorem rn_at : ∀ (d : Nat) {l r : List Nat} {n : Nat}, cnt l ≤ d → (lr l)[n]? = some r → rn l r = n := by
  intro d
  induction d with
  | zero =>
    intro l r n h hn
    have z : steps l = [] := by
      by_cases q : steps l = []
      · exact q
      · have := cnt_pos q; omega
    rw [lr_nil z] at hn
    cases n with
    | zero => cases hn; rfl
    | succ n => cases hn
  | succ d ih =>
    intro l r n h hn
    by_cases z : steps l = []
    · rw [lr_nil z] at hn
      cases n with
      | zero => cases hn; rfl
      | succ n => cases hn
    · rw [lr_step z] at hn
      obtain ⟨pre, i, post, m, e1, e2, e3⟩ := flat_at hn
      unfold ri at e3
      rw [List.getElem?_map] at e3
      cases hr : (lr (stepped l i))[m]? with
      | none => rw [hr] at e3; cases e3
      | some r' =>
        rw [hr] at e3
        cases e3
        have hi : i ∈ steps l := by rw [e1]; simp
        have := cnt_step hi
        rw [rn, ih (by omega) hr, e2]
        congr 1
        have hs := steps_srt l
        rw [e1] at hs ⊢
        rw [filter_pre hs]
        exact (len_flat fun j _ => ri_length l j).symm
theorem rn_lr {l r : List Nat} {n : Nat} (h : (lr l)[n]? = some r) : rn l r = n := rn_at _ (Nat.le_refl _) h
theorem lr_rn {l r : List Nat} (h : LR l r) : (lr l)[rn l r]? = some r := by
  obtain ⟨n, hn, e⟩ := List.getElem_of_mem (lr_mem.mpr h)
  have : (lr l)[n]? = some r := by rw [List.getElem?_eq_getElem hn, e]
  rw [rn_lr this]
  exact this
theorem rn_lt {l r : List Nat} (h : LR l r) : rn l r < ct l := by
  have := (List.getElem?_eq_some_iff.mp (lr_rn h)).1
  rwa [lr_length] at this
theorem lr_some {l : List Nat} {n : Nat} (h : n < ct l) : ∃ r, (lr l)[n]? = some r ∧ LR l r := by
  have hn : n < (lr l).length := by rw [lr_length]; exact h
  exact ⟨_, List.getElem?_eq_getElem hn, lr_mem.mp (List.getElem_mem hn)⟩
theorem ct_pos {l : List Nat} : 0 < ct l := by
  have : ∀ (d : Nat) (l : List Nat), cnt l ≤ d → 0 < ct l := by
    intro d
    induction d with
    | zero =>
      intro l h
      have z : steps l = [] := by
        by_cases q : steps l = []
        · exact q
        · have := cnt_pos q; omega
      rw [ct_nil z]; exact Nat.one_pos
    | succ d ih =>
      intro l h
      by_cases z : steps l = []
      · rw [ct_nil z]; exact Nat.one_pos
      · rw [← ct_step z]
        cases e : steps l with
        | nil => exact absurd e z
        | cons i t =>
          have := cnt_step (l := l) (i := i) (by rw [e]; exact List.mem_cons_self)
          have h2 := ih (stepped l i) (by omega)
          rw [List.map_cons, List.sum_cons]
          omega
  exact this _ l (Nat.le_refl _)
/-! ### they ascend -/
def zs (r : List Nat) : List Int := r.map fun (i : Nat) => (i : Int)
theorem zs_lt_cons {i : Nat} {a b : List Nat} (h : zs a < zs b) : zs (i :: a) < zs (i :: b) := by
  unfold zs at h ⊢
  rw [List.map_cons, List.map_cons]
  exact List.cons_lt_cons_self.mpr h
theorem zs_lt_head {i j : Nat} {a b : List Nat} (h : i < j) : zs (i :: a) < zs (j :: b) := by
  unfold zs
  rw [List.map_cons, List.map_cons, List.cons_lt_cons_iff]
  exact .inl (by omega)
theorem lr_asc : ∀ (d : Nat) (l : List Nat), cnt l ≤ d → (lr l).Pairwise fun a b => zs a < zs b := by
  intro d
  induction d with
  | zero =>
    intro l h
    have z : steps l = [] := by
      by_cases q : steps l = []
      · exact q
      · have := cnt_pos q; omega
    rw [lr_nil z]
    exact List.pairwise_singleton _ _
  | succ d ih =>
    intro l h
    by_cases z : steps l = []
    · rw [lr_nil z]; exact List.pairwise_singleton _ _
    · rw [lr_step z]
      have hs := steps_srt l
      have hm : ∀ i ∈ steps l, cnt (stepped l i) ≤ d := fun i hi => by have := cnt_step hi; omega
      generalize steps l = s at hs hm
      clear z
      induction s with
      | nil => exact List.Pairwise.nil
      | cons i s ih2 =>
        rw [List.flatMap_cons]
        refine List.pairwise_append.mpr ⟨?_, ih2 (List.pairwise_cons.mp hs).2 fun j hj => hm j (List.mem_cons_of_mem _ hj), fun a ha b hb => ?_⟩
        · unfold ri
          exact List.pairwise_map.mpr ((ih _ (hm i List.mem_cons_self)).imp fun {a b} h => zs_lt_cons h)
        · obtain ⟨j, hj, hb⟩ := List.mem_flatMap.mp hb
          unfold ri at ha hb
          obtain ⟨a', _, rfl⟩ := List.mem_map.mp ha
          obtain ⟨b', _, rfl⟩ := List.mem_map.mp hb
          exact zs_lt_head ((List.pairwise_cons.mp hs).1 j hj)
theorem lr_lt {l r r2 : List Nat} {n m : Nat} (h1 : (lr l)[n]? = some r) (h2 : (lr l)[m]? = some r2) (h : n < m) : zs r < zs r2 := by
  obtain ⟨a1, rfl⟩ := List.getElem?_eq_some_iff.mp h1
  obtain ⟨a2, rfl⟩ := List.getElem?_eq_some_iff.mp h2
  exact List.pairwise_iff_getElem.mp (lr_asc _ l (Nat.le_refl _)) n m a1 a2 h
theorem lr_iff {l r r2 : List Nat} {n m : Nat} (h1 : (lr l)[n]? = some r) (h2 : (lr l)[m]? = some r2) : decide (zs r < zs r2) = decide (n < m) := by
  rw [Bool.eq_iff_iff, decide_eq_true_iff, decide_eq_true_iff]
  constructor
  · intro h
    rcases Nat.lt_trichotomy n m with q | q | q
    · exact q
    · subst q
      rw [h1] at h2
      cases h2
      exact absurd h (List.lt_irrefl _)
    · exact absurd (List.lt_trans h (lr_lt h2 h1 q)) (List.lt_irrefl _)
  · exact lr_lt h1 h2
/-- < of two lists of small numbers -/
theorem py_dn : ∀ r : List Nat, D.pys (dn r) = (zs r).map PyData.int
  | [] => by unfold dn zs; rw [List.map_nil, D.pys]; rfl
  | i :: r => by
    have ih := py_dn r
    unfold dn zs at ih ⊢
    rw [List.map_cons, D.pys, ih, D.py]
    rfl
theorem lt_dn {a b : List Nat} (ha : ∀ i ∈ a, i < 10 ^ 12) (hb : ∀ i ∈ b, i < 10 ^ 12) : cmpD .lt (.lst (dn a)) (.lst (dn b)) = some (decide (zs a < zs b)) := by
  have s1 := shaped_sm (dn_sm1 ha) (by decide)
  have s2 := shaped_sm (dn_sm1 hb) (by decide)
  have p : ∀ a : List Nat, (D.lst (dn a)).plain = true := fun a => by
    rw [D.plain]
    induction a with
    | nil => rfl
    | cons n ns ih => exact ih
  have e : PySem.W.alike (D.lst (dn a)).py (D.lst (dn b)).py = true := by
    rw [D.py, D.py, py_dn, py_dn, PySem.W.alike]
    exact PySem.W.alike_ints _ _
  show ltD _ _ = _
  unfold ltD
  rw [p a, p b, s1, s2, e]
  show some (PySem.W.dataLt _ _) = _
  rw [D.py, D.py, py_dn, py_dn, PySem.W.dataLt_list]
  exact congrArg some (PySem.W.dataLt_ints _ _)
/-- the first one -/
theorem fr_LR : ∀ (d : Nat) {l : List Nat}, cnt l ≤ d → LR l (fr d l) ∧ rn l (fr d l) = 0
  | 0, l, h => by
    have z : steps l = [] := by
      by_cases q : steps l = []
      · exact q
      · have := cnt_pos q; omega
    exact ⟨.nil z, rfl⟩
  | d + 1, l, h => by
    cases e : steps l with
    | nil =>
      rw [fr_nil e]
      exact ⟨.nil e, rfl⟩
    | cons i t =>
      have hi : i ∈ steps l := by rw [e]; exact List.mem_cons_self
      have := cnt_step hi
      obtain ⟨h1, h2⟩ := fr_LR d (l := stepped l i) (by omega)
      rw [fr_cons e]
      refine ⟨.cons hi h1, ?_⟩
      rw [rn, h2]
      have hs := steps_srt l
      rw [e] at hs ⊢
      have := filter_pre (pre := []) hs
      rw [List.nil_append] at this
      rw [this]
      rfl
/-- no verdict means a level row -/
theorem vd_none_LR : ∀ {ds : List D} {l : List Nat} {k : Nat}, vd l k ds = none → ∃ r, ds = dn r ∧ LR l r
  | [], l, k, h => by
    rw [vd_end] at h
    split at h
    · rename_i z; exact ⟨[], rfl, .nil z⟩
    · cases h
  | d :: ds, l, k, h => by
    cases e : stp l d with
    | none => rw [vd_none e] at h; cases h
    | some i =>
      rw [vd_some e] at h
      obtain ⟨rfl, hi⟩ := stp_some e
      obtain ⟨r, rfl, q⟩ := vd_none_LR h
      exact ⟨i :: r, rfl, .cons hi q⟩
theorem LR.vd {l r : List Nat} (h : LR l r) : vd l 0 (dn r) = none := by
  obtain ⟨l', h1, h2⟩ := h
  exact vd_go r l l' 0 h1 h2
theorem LR.small {l r : List Nat} (h : LR l r) (hl : l.length ≤ 1000) : ∀ i ∈ r, i < 10 ^ 12 := fun i hi => by
  obtain ⟨l', h1, _⟩ := h
  have := go_small r l l' h1 i hi
  omega
theorem dn_at {ns : List Nat} {done rest : List D} {d : D} (e : dn ns = done ++ d :: rest) : ∃ i, ns[done.length]? = some i ∧ d = .int ((i : Nat) : Int) := by
  have hd : (dn ns)[done.length]? = some d := by rw [e, List.getElem?_append_right (Nat.le_refl _), Nat.sub_self]; rfl
  unfold dn at hd
  rw [List.getElem?_map] at hd
  cases hx : ns[done.length]? with
  | none => rw [hx] at hd; cases hd
  | some i => rw [hx] at hd; cases hd; exact ⟨i, rfl, rfl⟩
end K
set_option Elab.async false
set_option linter.all false
set_option maxRecDepth 100000
set_option maxHeartbeats 0
open PySem VI L2
namespace K
theorem good_mem {s : Src} (g : s.Good) (m : List Mem) : Src.Good { s with mem := m } := ⟨g.left, g.cells, g.mixed, g.turn, g.len⟩
theorem mem_new (m : List Mem) : (m ++ [[]])[m.length]? = some [] := by simp
/-- counted, a known dict -/
theorem sp4' {k n j : Nat} {l : List Nat} {s : Src} {m : Mem} (o : Ord l) (hl : l.length = n) (hn : n ≤ 6) (g : s.Good) (hm : s.mem[j]? = some m) (mo : Mo n m) {Q : Vl → So → Prop} {R : Exc → So → Prop} (q : ∀ (s' : Src) (m' : Mem), s'.Good → s'.mem[j]? = some m' → Mo n m' → Q (.fz (.int ((ct l : Nat) : Int))) (some s')) : WC tab fuel (k + 19) (.f 4) [.tup (dn l), .mem j] (some s) Q R :=
  sp4 15 (k := k) o hl hn (cnt_15 (by omega)) g hm mo q
theorem sp5 {k : Nat} {l : List Nat} (o : Ord l) (h : l.length ≤ 6) {s : Src} (g : s.Good) {Q : Vl → So → Prop} {R : Exc → So → Prop} (q : ∀ s' : Src, s'.Good → Q (.fz (.int ((ct l : Nat) : Int))) (some s')) : WC tab fuel (k + 20) (.f 5) [.tup (dn l)] (some s) Q R := by
  refine wc_fd (fd := ⟨1, 1, b5⟩) rfl rfl ?_
  show WSS _ b5 [some (.fz (.tup (dn l)))] (some s) _
  unfold b5
  repeat' fail "v1"
  refine sp4' (k := k) (s := { s with mem := s.mem ++ [[]] }) o rfl h (good_mem g _) (mem_new _) (Mo.nil _) fun s' m' g' _ _ => ?_
  repeat' fail "v1"
  exact q s' g'
local macro_rules | `(tactic| fail "v_call") => `(tactic| first | refine sp4' (by assumption) (by first | assumption | (rw [stepped_len (by assumption) (by assumption)]; assumption)) (by omega) (by assumption) (by assumption) (by assumption) (fun s2 m2 g2 hm2 mo2 => ?_) | refine sp2 (by omega) ?_ | refine sp3 (by omega) (by assumption) (by assumption) ?_ | (apply op3_; fail "v_gt"; fail "v_gt"; exact ne_nil (steps_small (by omega))))
/-- row_at: too great -/
theorem sp9r {k : Nat} {l : List Nat} {z : Int} (o : Ord l) (h : l.length ≤ 6) (hz : ((ct l : Nat) : Int) ≤ z) {s : Src} (g : s.Good) {Q : Vl → So → Prop} {R : Exc → So → Prop} (q : ∀ s' : Src, s'.Good → R ⟨100, []⟩ (some s')) : WC tab fuel (k + 20) (.f 6) [.tup (dn l), .int z] (some s) Q R := by
  refine wc_fd (fd := ⟨2, 7, b6⟩) rfl rfl ?_
  show WSS _ b6 [some (.fz (.tup (dn l))), some (.fz (.int z)), none, none, none, none, none] (some s) _
  unfold b6
  repeat' fail "v1"
  refine sp4' (k := k) (s := { s with mem := s.mem ++ [[]] }) o rfl h (good_mem g _) (mem_new _) (Mo.nil _) fun s' m' g' _ _ => ?_
  repeat' fail "v1"
  exact q s' g'
def ms9 (ρ : Rho) : Nat := ms ρ
/-- row_at -/
theorem sp6 {k n : Nat} {l r : List Nat} (o : Ord l) (h : l.length ≤ 6) (hr : (lr l)[n]? = some r) {s : Src} (g : s.Good) {Q : Vl → So → Prop} {R : Exc → So → Prop} (q : ∀ s' : Src, s'.Good → Q (.ow (dn r)) (some s')) : WC tab fuel (k + 20) (.f 6) [.tup (dn l), .int (n : Nat)] (some s) Q R := by
  refine wc_fd (fd := ⟨2, 7, b6⟩) rfl rfl ?_
  show WSS _ b6 [some (.fz (.tup (dn l))), some (.fz (.int (n : Nat))), none, none, none, none, none] (some s) _
  have hn : n < ct l := by have := (List.getElem?_eq_some_iff.mp hr).1; rwa [lr_length] at this
  unfold b6
  repeat' fail "v1"
  refine sp4' (k := k) (s := { s with mem := s.mem ++ [[]] }) o rfl h (good_mem g _) (mem_new _) (Mo.nil _) fun s1 m1 g1 hm1 mo1 => ?_
  repeat' fail "v1"
  refine ww_ind (fun ρ S => ∃ (s2 : Src) (m2 : Mem) (l' pre r' : List Nat) (left : Nat) (x5 x6 : Sl), ρ = [some (.fz (.tup (dn l'))), some (.fz (.int (n : Nat))), some (.fz (.mem s.mem.length)), some (.ow (dn pre)), some (.fz (.int (left : Nat))), x5, x6] ∧ S = some s2 ∧ s2.Good ∧ s2.mem[s.mem.length]? = some m2 ∧ Mo l.length m2 ∧ Ord l' ∧ l'.length = l.length ∧ (lr l')[left]? = some r' ∧ r = pre ++ r') (fun ρ _ => ms ρ) ⟨s1, m1, l, [], r, n, none, none, rfl, rfl, g1, hm1, mo1, o, rfl, hr, rfl⟩ ?_ ?_
  · rw [ms_dn]
    have := cnt_15 h
    unfold fuel
    omega
  · rintro ρ S ⟨s2, m2, l', pre, r', left, x5, x6, rfl, rfl, g2, hm2, mo2, o2, hl2, hr2, rfl⟩
    have h2 : l'.length ≤ 6 := by omega
    have hpl : pre.length ≤ 15 := by
      have h1 := (lr_mem.mp (List.mem_of_getElem? hr)).len
      have := cnt_15 h
      rw [List.length_append] at h1
      omega
    repeat' fail "v1"
    · -- no step is left
      have z : steps l' = [] := by assumption
      rw [lr_nil z] at hr2
      cases left with
      | succ _ => cases hr2
      | zero =>
        cases hr2
        rw [List.append_nil] at q
        exact q s2 g2
    · have z : steps l' ≠ [] := by assumption
      rw [lr_step z] at hr2
      refine wf_ind (fun done ρ S => ∃ (s3 : Src) (m3 : Mem) (left : Nat) (x5 x6 : Sl), ρ = [some (.fz (.tup (dn l'))), some (.fz (.int (n : Nat))), some (.fz (.mem s.mem.length)), some (.ow (dn pre)), some (.fz (.int (left : Nat))), x5, x6] ∧ S = some s3 ∧ s3.Good ∧ s3.mem[s.mem.length]? = some m3 ∧ Mo l.length m3 ∧ (((steps l').drop done.length).flatMap (ri l'))[left]? = some r') _ ⟨s2, m2, left, x5, x6, rfl, rfl, g2, hm2, mo2, hr2⟩ ?_ ?_
      · rintro done d rest ρ S e ⟨s3, m3, left, x5, x6, rfl, rfl, g3, hm3, mo3, hr3⟩
        obtain ⟨i, hi, rfl⟩ := dn_at e
        have him : i ∈ steps l' := List.mem_of_getElem? hi
        obtain ⟨⟨i1, i2⟩, _⟩ := mem_steps.mp him
        have o3 := o2.step i1 i2
        have ed : (steps l').drop done.length = i :: (steps l').drop (done.length + 1) := by
          obtain ⟨a1, a2⟩ := List.getElem?_eq_some_iff.mp hi
          rw [List.drop_eq_getElem_cons a1, a2]
        rw [ed, List.flatMap_cons] at hr3
        refine ⟨_, rfl, ?_⟩
        repeat' fail "v1"
        refine sp4' (k := k) (n := l.length) o3 (by rw [stepped_len i1 i2]; exact hl2) h g3 hm3 mo3 fun s4 m4 g4 hm4 mo4 => ?_
        have hlen : (ri l' i).length = ct (stepped l' i) := ri_length l' i
        have hc := cnt_step him
        repeat' fail "v1"
        · have hlt : left < (ri l' i).length := by rw [hlen]; omega
          rw [List.getElem?_append_left hlt] at hr3
          unfold ri at hr3
          rw [List.getElem?_map] at hr3
          cases er : (lr (stepped l' i))[left]? with
          | none => rw [er] at hr3; cases hr3
          | some r2 =>
            rw [er] at hr3
            cases hr3
            refine ⟨⟨s4, m4, stepped l' i, pre ++ [i], r2, left, _, _, by rw [← dn_snoc], rfl, g4, hm4, mo4, o3, by rw [stepped_len i1 i2]; exact hl2, er, by rw [List.append_assoc]; rfl⟩, ?_⟩
            rw [ms_dn, ms_dn]
            omega
        · have hge : (ri l' i).length ≤ left := by rw [hlen]; omega
          rw [List.getElem?_append_right hge, hlen] at hr3
          rw [show ((left : Nat) : Int) + -((ct (stepped l' i) : Nat) : Int) = ((left - ct (stepped l' i) : Nat) : Int) by omega]
          exact ⟨s4, m4, left - ct (stepped l' i), _, _, rfl, rfl, g4, hm4, mo4, by rw [List.length_append, List.length_singleton]; exact hr3⟩
      · rintro ρ S ⟨s3, m3, left, x5, x6, rfl, rfl, g3, hm3, mo3, hr3⟩
        rw [dn_length, List.drop_length] at hr3
        cases hr3
/-- what stands for levels -/
theorem items1_of {d : D} {ds : List D} (h : d.items = some ds) : itD .val [d] = some ds := by
  cases d <;> first | (cases h; rfl) | cases h
local macro_rules | `(tactic| fail "v_call") => `(tactic| first | refine sp71 (by omega) (by assumption) (by assumption) ?_)
/-- the sum over the earlier steps -/
def sm (l : List Nat) (i j : Nat) : Nat := ((((steps l).take j).filter fun x => decide (x < i)).map fun x => ct (stepped l x)).sum
theorem sm_all (l : List Nat) (i : Nat) : sm l i (steps l).length = (((steps l).filter fun x => decide (x < i)).map fun x => ct (stepped l x)).sum := by
  unfold sm
  rw [List.take_of_length_le (Nat.le_refl _)]
theorem sm_succ {l : List Nat} {i j x : Nat} (h : (steps l)[j]? = some x) : sm l i (j + 1) = sm l i j + if x < i then ct (stepped l x) else 0 := by
  unfold sm
  rw [List.take_add_one, h, List.filter_append, List.map_append, List.sum_append]
  congr 1
  show (List.map _ (List.filter _ [x])).sum = _
  rw [List.filter_cons]
  by_cases q : x < i
  · rw [if_pos q, if_pos (decide_eq_true q)]; simp
  · rw [if_neg q, if_neg (by rw [decide_eq_false q]; exact Bool.false_ne_true)]; rfl
end K
set_option Elab.async false
set_option linter.all false
set_option maxRecDepth 100000
set_option maxHeartbeats 0
open PySem VI L2
namespace K
/-- rows as lists -/
def rl (rs : List (List Nat)) : List D := rs.map fun r => D.lst (dn r)
theorem rl_at {rs : List (List Nat)} {n : Nat} {r : List Nat} (h : rs[n]? = some r) : (rl rs)[n]? = some (.lst (dn r)) := by
  unfold rl
  rw [List.getElem?_map, h]
  rfl
theorem rl_append (a b : List (List Nat)) : rl (a ++ b) = rl a ++ rl b := List.map_append
theorem rl_len (rs : List (List Nat)) : (rl rs).length = rs.length := List.length_map _
def consR (i : Nat) : D → D
  | .lst xs => .lst (.int ((i : Nat) : Int) :: xs)
  | d => d
theorem consR_rl (i : Nat) (rs : List (List Nat)) : (rl rs).map (consR i) = rl (rs.map (i :: ·)) := by
  unfold rl
  rw [List.map_map, List.map_map]
  rfl
theorem take_flat {α β : Type} {f : α → List β} {l : List α} {j : Nat} {x : α} (h : l[j]? = some x) : (l.take (j + 1)).flatMap f = (l.take j).flatMap f ++ f x := by
  rw [List.take_add_one, h, List.flatMap_append]
  congr 1
  show List.flatMap f [x] = f x
  rw [List.flatMap_cons, List.flatMap_nil, List.append_nil]
theorem flat_take_len {l : List Nat} (h : steps l ≠ []) (j : Nat) : (((steps l).take j).flatMap (ri l)).length ≤ ct l := by
  rw [← lr_length, lr_step h]
  have e : (steps l).flatMap (ri l) = ((steps l).take j).flatMap (ri l) ++ ((steps l).drop j).flatMap (ri l) := by rw [← List.flatMap_append, List.take_append_drop]
  rw [e, List.length_append]
  omega
theorem kn_le4 : ∀ (d : Nat) (l : List Nat), l.length ≤ 5 → kn d l ≤ 4 ^ d
  | 0, _, _ => Nat.le_refl _
  | d + 1, l, h => by
    rw [kn]
    split
    · exact Nat.pos_of_ne_zero (by simp)
    · have q := sum_le (b := 4 ^ d) (l := (steps l).map fun i => kn d (stepped l i)) fun x hx => by
        obtain ⟨i, hi, rfl⟩ := List.mem_map.mp hx
        obtain ⟨⟨h1, h2⟩, _⟩ := mem_steps.mp hi
        exact kn_le4 d _ (by rw [stepped_len h1 h2]; exact h)
      rw [List.length_map] at q
      have h3 : (steps l).length ≤ l.length - 1 := by
        unfold steps
        refine Nat.le_trans (List.length_filter_le _ _) ?_
        rw [List.length_range']
        exact Nat.le_refl _
      have w : (steps l).length * 4 ^ d ≤ 4 * 4 ^ d := Nat.mul_le_mul_right _ (by omega)
      rw [Nat.pow_succ, Nat.mul_comm]
      omega
theorem cnt_10 {l : List Nat} (h : l.length ≤ 5) : cnt l ≤ 10 := by
  have h1 := cnt_half l
  have h2 : l.length * l.length ≤ 5 * l.length := Nat.mul_le_mul_right _ h
  omega
theorem ct_1M {l : List Nat} (h : l.length ≤ 5) : ct l ≤ 1048576 := by
  have h1 := kn_le4 (cnt l) l h
  have h2 : 4 ^ cnt l ≤ 4 ^ 10 := Nat.pow_le_pow_right (by decide) (cnt_10 h)
  unfold ct
  omega
local macro_rules | `(tactic| fail "v_call") => `(tactic| first | (apply op3_; fail "v_gt"; fail "v_gt"; exact ne_nil (steps_small (by assumption))) | refine sp15 (by assumption) ?_)
theorem sp18s {k : Nat} {l : List Nat} {S : So} (hl : l.length ≤ 5)
    (H : ∀ i ∈ steps l, ∀ {Q : Vl → So → Prop} {R : Exc → So → Prop}, (∀ v : Vl, v.d = .lst (rl (lr (stepped l i))) → Q v S) → WC tab fuel (k + 3) (.f 16) [.tup (dn (stepped l i))] S Q R)
    {Q : Vl → So → Prop} {R : Exc → So → Prop} (q : ∀ v : Vl, v.d = .lst (rl (lr l)) → Q v S) : WC tab fuel (k + 4) (.f 16) [.tup (dn l)] S Q R := by
  refine wc_fd (fd := ⟨1, 4, b16⟩) rfl rfl ?_
  show WSS _ b16 [some (.fz (.tup (dn l))), none, none, none] S _
  unfold b16
  have o6 : l.length ≤ 1000 := by omega
  repeat' fail "v1"
  refine wf_ind (fun done ρ S' => S' = S ∧ ∃ x2 x3, ρ = [some (.fz (.tup (dn l))), some (.ow (rl (((steps l).take done.length).flatMap (ri l)))), x2, x3]) _ ⟨rfl, none, none, rfl⟩ ?_ ?_
  · rintro done d rest ρ S' e ⟨rfl, x2, x3, rfl⟩
    obtain ⟨i, hi, rfl⟩ := dn_at e
    have him : i ∈ steps l := List.mem_of_getElem? hi
    obtain ⟨⟨h1, h2⟩, _⟩ := mem_steps.mp him
    have hne : steps l ≠ [] := fun z => by rw [z] at him; cases him
    have hle := flat_take_len hne done.length
    have hle2 := flat_take_len hne (done.length + 1)
    rw [take_flat hi, List.length_append] at hle2
    have hM := ct_1M hl
    refine ⟨_, rfl, ?_⟩
    repeat' fail "v1"
    refine we_compF (fun r => some (consR i r)) ?_
    show WL _ _ [some (.fz (.tup (dn l))), some (.ow (rl (((steps l).take done.length).flatMap (ri l)))), some (.fz (.int ((i : Nat) : Int))), x3] S' _ _
    repeat' fail "v1"
    refine sp14 o6 h1 h2 ?_
    repeat' fail "v1"
    refine H i him fun v hv => ?_
    rw [hv]
    have e2 : (rl (lr (stepped l i))).filterMap (fun r => some (consR i r)) = rl (ri l i) := by
      unfold ri
      rw [← consR_rl, ← List.filterMap_eq_map]
      rfl
    refine wl_nil ⟨rl (lr (stepped l i)), rfl, by rw [rl_len, ← List.length_map (f := (i :: ·))]; show (ri l i).length ≤ lim; simp only [lim]; omega, fun r hrm => ?_, ?_⟩
    · obtain ⟨xs, _, rfl⟩ := List.mem_map.mp hrm
      refine wt_ (by rfl) ?_
      repeat' fail "v1"
      refine op2_ gt_ow (gt_sl (at_fz rfl)) (bin_addL (by
        have h3 : LR (stepped l i) xs := lr_mem.mp (by assumption)
        have h4 := h3.len
        have h5 := cnt_step him
        have h6 := cnt_10 hl
        rw [dn_length]
        simp only [lim, List.length_cons, List.length_nil]
        omega)) ?_
      exact ⟨rfl, rfl, rfl⟩
    · rw [e2]
      refine op2_ (gt_sl (at_ow rfl)) gt_ow (bin_addL (by rw [rl_len, rl_len]; simp only [lim]; omega)) ?_
      repeat' fail "v1"
      rw [List.length_append, List.length_singleton, take_flat hi, rl_append]
      exact ⟨rfl, _, _, rfl⟩
  · rintro ρ S' ⟨rfl, x2, x3, rfl⟩
    rw [dn_length, List.take_of_length_le (Nat.le_refl _)]
    repeat' fail "v1"
    · refine q _ ?_
      rw [lr_nil (by assumption)]
      rfl
    · refine q _ ?_
      rw [lr_step (by assumption)]
      rfl
theorem sp16 : ∀ (d : Nat) {k : Nat} {l : List Nat} {S : So}, l.length ≤ 5 → cnt l ≤ d → ∀ {Q : Vl → So → Prop} {R : Exc → So → Prop}, (∀ v : Vl, v.d = .lst (rl (lr l)) → Q v S) → WC tab fuel (k + d + 4) (.f 16) [.tup (dn l)] S Q R
  | 0, k, l, S, hl, hd, Q, R, q => sp18s hl (fun i hi => by have := cnt_step hi; omega) q
  | d + 1, k, l, S, hl, hd, Q, R, q => sp18s (k := k + (d + 1)) hl (fun i hi Q R q => by
    have := cnt_step hi
    obtain ⟨⟨h1, h2⟩, _⟩ := mem_steps.mp hi
    exact sp16 d (k := k) (by rw [stepped_len h1 h2]; exact hl) (by omega) q) q
/-- what _law_number tells -/
def nm_ (l : List Nat) (ds : List D) : Vl := match vd l 0 ds with
  | some w => .fz (.tup [.str "levels", .int (w : Nat)])
  | none => .ow [.str "told", .int ((rn l (nums ds) : Nat) : Int)]
/-! ### lists near a level row -/
theorem nm_some {l : List Nat} {ds : List D} {w : Nat} (h : vd l 0 ds = some w) : nm_ l ds = .fz (.tup [.str "levels", .int (w : Nat)]) := by unfold nm_; rw [h]
theorem nm_none {l : List Nat} {ds : List D} (h : vd l 0 ds = none) : nm_ l ds = .ow [.str "told", .int ((rn l (nums ds) : Nat) : Int)] := by unfold nm_; rw [h]
theorem jd_L (l : List Nat) (ds : List D) : jd l (.lst ds) = jL (vd l 0 ds) := rfl
theorem repr_told {n : Nat} (h : n < 10 ^ 12) : b1D .repr (.lst [.str "told", .int (n : Nat)]) = some (.fz (.str (D.lst [.str "told", .int (n : Nat)]).py.shown)) :=
  repr_its (Its.append (Its.one (d := .str "told") ⟨rfl, rfl, by decide, by decide, by decide, by decide⟩) (Its.one (It.nat h))) (by simp)
theorem repr_lev {n : Nat} (h : n < 10 ^ 12) : b1D .repr (.tup [.str "levels", .int (n : Nat)]) = some (.fz (.str (D.tup [.str "levels", .int (n : Nat)]).py.shown)) := repr_jd (some n) fun k e => by cases e; exact h
theorem its_kd {ds : List D} (h : Its ds) : ∀ d ∈ ds, Kd d := fun d hd => (h d hd).kd
theorem jd_its {ds : List D} (h : Its ds) : Jd (.lst ds) := ⟨rfl, fun xs e x hx => by cases e; exact (h x hx).kd⟩
theorem vd_le : ∀ (ds : List D) (l : List Nat) (k m : Nat), vd l k ds = some m → m ≤ k + ds.length
  | [], l, k, m, h => by
    rw [vd_end] at h
    split at h
    · cases h
    · cases h; omega
  | d :: ds, l, k, m, h => by
    cases e : stp l d with
    | none => rw [vd_none e] at h; cases h; omega
    | some i =>
      rw [vd_some e] at h
      have := vd_le ds _ _ _ h
      rw [List.length_cons]
      omega
theorem ne_dn {a : List Nat} (h : ∀ i ∈ a, i < 10 ^ 12) : cmpD .ne (.lst (dn a)) (.lst (dn a)) = some false := by
  rw [cmp_ne_sm 1 (dn_sm1 h) (dn_sm1 h) (dn_nb1 _) (dn_nb1 _) (by decide)]
  simp
theorem eq_dn {a : List Nat} (h : ∀ i ∈ a, i < 10 ^ 12) : cmpD .eq (.lst (dn a)) (.lst (dn a)) = some true := by
  rw [cmp_eq_sm 1 (dn_sm1 h) (dn_sm1 h) (dn_nb1 _) (dn_nb1 _) (by decide)]
  simp
local macro_rules | `(tactic| fail "v_call") => `(tactic| first | refine sp77 (by omega) (by omega) (by assumption) (by assumption) (fun ds s2 g2 hi hz => ?_) | (apply op1_; fail "v_gt"; with_reducible first | assumption) | (apply op3_; fail "v_gt"; fail "v_gt"; with_reducible first | assumption))
end K
set_option Elab.async false
set_option linter.all false
set_option maxRecDepth 100000
set_option maxHeartbeats 0
open PySem VI L2
namespace K
/-! ### plain orders -/
def Pl (l : List Nat) : Prop := ∀ a b c, a < b → b < c → c < l.length → ¬ (l.getD b 0 < l.getD a 0 ∧ l.getD c 0 < l.getD b 0)
theorem stepped_at {l : List Nat} {i : Nat} (h1 : 1 ≤ i) (h2 : i < l.length) (k : Nat) : (stepped l i).getD k 0 = if k = i - 1 then l.getD i 0 else if k = i then l.getD (i - 1) 0 else l.getD k 0 := by
  unfold stepped
  rw [List.getD_eq_getElem?_getD]
  rcases Nat.lt_trichotomy k (i - 1) with q | q | q
  · rw [List.append_assoc, List.getElem?_append_left (by rw [List.length_take]; omega), List.getElem?_take, if_pos q, if_neg (by omega), if_neg (by omega), List.getD_eq_getElem?_getD]
  · subst q
    rw [List.append_assoc, List.getElem?_append_right (by rw [List.length_take]; omega), List.length_take, if_pos rfl, Nat.min_eq_left (by omega), Nat.sub_self]
    rfl
  · by_cases e : k = i
    · subst e
      rw [List.append_assoc, List.getElem?_append_right (by rw [List.length_take]; omega), List.length_take, if_neg (by omega), if_pos rfl, Nat.min_eq_left (by omega), show k - (k - 1) = 1 by omega]
      rfl
    · rw [if_neg (by omega), if_neg e, List.getElem?_append_right (by rw [List.length_append, List.length_take]; simp; omega), List.length_append, List.length_take, List.getElem?_drop, List.getD_eq_getElem?_getD]
      congr 2
      simp
      omega
def sw_ (i k : Nat) : Nat := if k = i - 1 then i else if k = i then i - 1 else k
theorem stepped_sw {l : List Nat} {i : Nat} (h1 : 1 ≤ i) (h2 : i < l.length) (k : Nat) : (stepped l i).getD k 0 = l.getD (sw_ i k) 0 := by
  rw [stepped_at h1 h2]
  unfold sw_
  split
  · rfl
  · split <;> rfl
theorem Pl.step {l : List Nat} (h : Pl l) {i : Nat} (hi : i ∈ steps l) : Pl (stepped l i) := by
  obtain ⟨⟨h1, h2⟩, h3⟩ := mem_steps.mp hi
  intro a b c hab hbc hc hf
  rw [stepped_len h1 h2] at hc
  rw [stepped_sw h1 h2, stepped_sw h1 h2, stepped_sw h1 h2] at hf
  obtain ⟨f1, f2⟩ := hf
  have n1 : ¬ (a = i - 1 ∧ b = i) := fun ⟨e1, e2⟩ => by
    subst e1 e2
    have q1 : sw_ b (b - 1) = b := by unfold sw_; rw [if_pos rfl]
    have q2 : sw_ b b = b - 1 := by unfold sw_; rw [if_neg (by omega), if_pos rfl]
    rw [q1, q2] at f1
    omega
  have n2 : ¬ (b = i - 1 ∧ c = i) := fun ⟨e1, e2⟩ => by
    subst e1 e2
    have q1 : sw_ c (c - 1) = c := by unfold sw_; rw [if_pos rfl]
    have q2 : sw_ c c = c - 1 := by unfold sw_; rw [if_neg (by omega), if_pos rfl]
    rw [q1, q2] at f2
    omega
  have m : ∀ x y, x < y → ¬ (x = i - 1 ∧ y = i) → sw_ i x < sw_ i y := fun x y hxy hn => by
    unfold sw_
    split <;> split <;> (try split) <;> (try split) <;> omega
  have hcl : sw_ i c < l.length := by
    unfold sw_
    split
    · exact h2
    · split <;> omega
  exact h _ _ _ (m a b hab n1) (m b c hbc n2) hcl ⟨f1, f2⟩
theorem Pl.far {l : List Nat} (h : Pl l) {i j : Nat} (hi : i ∈ steps l) (hj : j ∈ steps l) (hij : i < j) : i + 1 < j := by
  obtain ⟨⟨i1, i2⟩, i3⟩ := mem_steps.mp hi
  obtain ⟨⟨j1, j2⟩, j3⟩ := mem_steps.mp hj
  rcases Nat.lt_or_ge (i + 1) j with q | q
  · exact q
  · have e : j = i + 1 := by omega
    subst e
    rw [Nat.add_sub_cancel] at j3
    exact absurd ⟨i3, j3⟩ (h (i - 1) i (i + 1) (by omega) (by omega) j2)
theorem far_in {l : List Nat} {i j : Nat} (hi : i ∈ steps l) (hj : j ∈ steps l) (hf : i + 1 < j ∨ j + 1 < i) : j ∈ steps (stepped l i) := by
  obtain ⟨⟨i1, i2⟩, i3⟩ := mem_steps.mp hi
  obtain ⟨⟨j1, j2⟩, j3⟩ := mem_steps.mp hj
  refine mem_steps.mpr ⟨⟨j1, by rw [stepped_len i1 i2]; exact j2⟩, ?_⟩
  rw [stepped_at i1 i2, stepped_at i1 i2, if_neg (by omega), if_neg (by omega), if_neg (by omega), if_neg (by omega)]
  exact j3
theorem list_ext {l m : List Nat} (h : l.length = m.length) (e : ∀ k, l.getD k 0 = m.getD k 0) : l = m :=
  List.ext_getElem h fun k h1 h2 => by
    have := e k
    rw [List.getD_eq_getElem?_getD, List.getD_eq_getElem?_getD, List.getElem?_eq_getElem h1, List.getElem?_eq_getElem h2] at this
    exact this
theorem far_com {l : List Nat} {i j : Nat} (hi : i ∈ steps l) (hj : j ∈ steps l) (hf : i + 1 < j ∨ j + 1 < i) : stepped (stepped l i) j = stepped (stepped l j) i := by
  obtain ⟨⟨i1, i2⟩, i3⟩ := mem_steps.mp hi
  obtain ⟨⟨j1, j2⟩, j3⟩ := mem_steps.mp hj
  have li := stepped_len i1 i2
  have lj := stepped_len j1 j2
  refine list_ext ((stepped_len j1 (by omega)).trans (li.trans (lj.symm.trans (stepped_len i1 (by omega)).symm))) fun k => ?_
  rw [stepped_sw j1 (by omega), stepped_sw i1 i2, stepped_sw i1 (by omega), stepped_sw j1 j2]
  congr 1
  unfold sw_
  split <;> split <;> (try split) <;> (try split) <;> (try split) <;> (try split) <;> (try split) <;> omega
theorem lr_ex (l : List Nat) : ∃ r, LR l r := by
  obtain ⟨r, _, h⟩ := lr_some (l := l) (n := 0) ct_pos
  exact ⟨r, h⟩
/-- all level rows of a plain order have the same levels -/
theorem Pl.perm : ∀ (d : Nat) {l r r2 : List Nat}, cnt l ≤ d → Pl l → LR l r → LR l r2 → r.Perm r2 := by
  intro d
  induction d with
  | zero =>
    intro l r r2 h _ h1 h2
    have q : steps l = [] := by
      by_cases q : steps l = []
      · exact q
      · have := cnt_pos q; omega
    cases r with
    | cons i r => have := h1.inv.1; rw [q] at this; cases this
    | nil =>
      cases r2 with
      | cons i r => have := h2.inv.1; rw [q] at this; cases this
      | nil => exact List.Perm.refl _
  | succ d ih =>
    intro l r r2 h hp h1 h2
    cases r with
    | nil =>
      cases r2 with
      | nil => exact List.Perm.refl _
      | cons j r2 => have := h2.inv.1; rw [h1.inv0] at this; cases this
    | cons i r =>
      cases r2 with
      | nil => have := h1.inv.1; rw [h2.inv0] at this; cases this
      | cons j r2 =>
        obtain ⟨hi, h1⟩ := h1.inv
        obtain ⟨hj, h2⟩ := h2.inv
        have ci := cnt_step hi
        have cj := cnt_step hj
        by_cases e : i = j
        · subst e
          exact (ih (by omega) (hp.step hi) h1 h2).cons i
        · have hf : i + 1 < j ∨ j + 1 < i := by
            rcases Nat.lt_or_gt_of_ne e with q | q
            · exact .inl (hp.far hi hj q)
            · exact .inr (hp.far hj hi q)
          have a1 := far_in hi hj hf
          have a2 := far_in hj hi hf.symm
          obtain ⟨r3, h3⟩ := lr_ex (stepped (stepped l i) j)
          have h4 : LR (stepped (stepped l j) i) r3 := by rw [← far_com hi hj hf]; exact h3
          have p1 := ih (by omega) (hp.step hi) h1 (.cons a1 h3)
          have p2 := ih (by omega) (hp.step hj) h2 (.cons a2 h4)
          exact ((p1.cons i).trans (List.Perm.swap j i r3)).trans (p2.symm.cons j)
/-- a falling triple stays one behind a step that does not turn two of it -/
theorem trip_step {l : List Nat} {i a b c : Nat} (hi : i ∈ steps l) (hab : a < b) (hbc : b < c) (hc : c < l.length) (h1 : l.getD b 0 < l.getD a 0) (h2 : l.getD c 0 < l.getD b 0) (n1 : ¬ (a = i - 1 ∧ b = i)) (n2 : ¬ (b = i - 1 ∧ c = i)) : ¬ Pl (stepped l i) := fun hp => by
  obtain ⟨⟨i1, i2⟩, i3⟩ := mem_steps.mp hi
  have m : ∀ x y, x < y → ¬ (x = i - 1 ∧ y = i) → sw_ i x < sw_ i y := fun x y hxy hn => by
    unfold sw_
    split <;> split <;> (try split) <;> (try split) <;> omega
  have ss : ∀ x, sw_ i (sw_ i x) = x := fun x => by
    unfold sw_
    split
    · rw [if_neg (by omega), if_pos rfl]; omega
    · split
      · rw [if_pos rfl]; omega
      · first | rfl | rw [if_neg (by assumption), if_neg (by assumption)]
  have hcl : sw_ i c < (stepped l i).length := by
    rw [stepped_len i1 i2]
    unfold sw_
    split
    · exact i2
    · split <;> omega
  refine hp _ _ _ (m a b hab n1) (m b c hbc n2) hcl ⟨?_, ?_⟩
  · rw [stepped_sw i1 i2, stepped_sw i1 i2, ss, ss]; exact h1
  · rw [stepped_sw i1 i2, stepped_sw i1 i2, ss, ss]; exact h2
/-- between two falling positions a step lies -/
theorem step_between {l : List Nat} : ∀ (d a b : Nat), b = a + d → b < l.length → l.getD b 0 < l.getD a 0 → ∃ i ∈ steps l, a < i ∧ i ≤ b := by
  intro d
  induction d with
  | zero => intro a b e _ h; subst e; exact absurd h (Nat.lt_irrefl _)
  | succ d ih =>
    intro a b e hb h
    rcases Nat.lt_or_ge (l.getD (a + d) 0) (l.getD a 0) with q | q
    · obtain ⟨i, hi, h1, h2⟩ := ih a (a + d) rfl (by omega) q
      exact ⟨i, hi, h1, by omega⟩
    · refine ⟨b, mem_steps.mpr ⟨⟨by omega, hb⟩, ?_⟩, by omega, Nat.le_refl _⟩
      rw [show b - 1 = a + d by omega]
      omega
theorem Pl.no {l : List Nat} (h : ¬ Pl l) : ∃ a b c, a < b ∧ b < c ∧ c < l.length ∧ l.getD b 0 < l.getD a 0 ∧ l.getD c 0 < l.getD b 0 := by
  refine Classical.byContradiction fun n => h fun a b c h1 h2 h3 h4 => n ⟨a, b, c, h1, h2, h3, h4.1, h4.2⟩
/-- two neighbouring steps -/
theorem braid {l : List Nat} {i : Nat} (hi : i ∈ steps l) (hj : i + 1 ∈ steps l) : ∃ m : List Nat, ∀ r, LR m r → LR l (i :: (i + 1) :: i :: r) ∧ LR l ((i + 1) :: i :: (i + 1) :: r) := by
  obtain ⟨⟨i1, i2⟩, i3⟩ := mem_steps.mp hi
  obtain ⟨⟨j1, j2⟩, j3⟩ := mem_steps.mp hj
  rw [Nat.add_sub_cancel] at j3
  have li := stepped_len i1 i2
  have lj := stepped_len j1 j2
  have a1 : i + 1 ∈ steps (stepped l i) := mem_steps.mpr ⟨⟨j1, by omega⟩, by
    rw [stepped_at i1 i2, stepped_at i1 i2, if_neg (by omega), if_neg (by omega), if_neg (by omega), if_pos (by omega)]; omega⟩
  have l2 := stepped_len j1 (show i + 1 < (stepped l i).length by omega)
  have a2 : i ∈ steps (stepped (stepped l i) (i + 1)) := mem_steps.mpr ⟨⟨i1, by omega⟩, by
    rw [stepped_at j1 (by omega), stepped_at j1 (by omega), if_pos (by omega), if_neg (by omega), if_neg (by omega), stepped_at i1 i2, stepped_at i1 i2, if_neg (by omega), if_neg (by omega), if_pos rfl]; exact j3⟩
  have b1 : i ∈ steps (stepped l (i + 1)) := mem_steps.mpr ⟨⟨i1, by omega⟩, by
    rw [stepped_at j1 j2, stepped_at j1 j2, if_pos (by omega), if_neg (by omega), if_neg (by omega)]; omega⟩
  have m2 := stepped_len i1 (show i < (stepped l (i + 1)).length by omega)
  have b2 : i + 1 ∈ steps (stepped (stepped l (i + 1)) i) := mem_steps.mpr ⟨⟨j1, by omega⟩, by
    rw [stepped_at i1 (by omega), stepped_at i1 (by omega), if_neg (by omega), if_neg (by omega), if_neg (by omega), if_pos (by omega), stepped_at j1 j2, stepped_at j1 j2, if_neg (by omega), if_pos rfl, if_neg (by omega), if_neg (by omega)]
    exact i3⟩
  have e : stepped (stepped (stepped l i) (i + 1)) i = stepped (stepped (stepped l (i + 1)) i) (i + 1) := by
    refine list_ext ?_ fun k => ?_
    · rw [stepped_len i1 (by omega), stepped_len j1 (show i + 1 < (stepped (stepped l (i + 1)) i).length by omega), l2, m2, li, lj]
    · rw [stepped_sw i1 (by omega), stepped_sw j1 (by omega), stepped_sw i1 i2, stepped_sw j1 (by omega), stepped_sw i1 (by omega), stepped_sw j1 j2]
      congr 1
      unfold sw_
      repeat' split
      all_goals omega
  exact ⟨_, fun r hr => ⟨.cons hi (.cons a1 (.cons a2 hr)), .cons hj (.cons b1 (.cons b2 (by rw [← e]; exact hr)))⟩⟩
/-- an order that is not plain has level rows with unlike levels -/
theorem NPl : ∀ (d : Nat) {l : List Nat}, cnt l ≤ d → ¬ Pl l → ∃ r r2, LR l r ∧ LR l r2 ∧ ¬ r.Perm r2 := by
  intro d
  induction d with
  | zero =>
    intro l h hn
    obtain ⟨a, b, c, h1, h2, h3, h4, h5⟩ := Pl.no hn
    obtain ⟨i, hi, _⟩ := step_between (b - a) a b (by omega) (by omega) h4
    have := cnt_pos (show steps l ≠ [] from fun z => by rw [z] at hi; cases hi)
    omega
  | succ d ih =>
    intro l h hn
    obtain ⟨a, b, c, h1, h2, h3, h4, h5⟩ := Pl.no hn
    have go : ∀ i ∈ steps l, ¬ (a = i - 1 ∧ b = i) → ¬ (b = i - 1 ∧ c = i) → ∃ r r2, LR l r ∧ LR l r2 ∧ ¬ r.Perm r2 := fun i hi n1 n2 => by
      have := cnt_step hi
      obtain ⟨r, r2, q1, q2, q3⟩ := ih (by omega) (trip_step hi h1 h2 h3 h4 h5 n1 n2)
      exact ⟨i :: r, i :: r2, .cons hi q1, .cons hi q2, fun p => q3 (List.perm_cons i |>.mp p)⟩
    by_cases e : a + 1 = b
    · subst e
      have hb : a + 1 ∈ steps l := mem_steps.mpr ⟨⟨by omega, by omega⟩, by rw [Nat.add_sub_cancel]; exact h4⟩
      by_cases e2 : a + 2 ∈ steps l
      · obtain ⟨m, hm⟩ := braid hb e2
        obtain ⟨r, hr⟩ := lr_ex m
        obtain ⟨q1, q2⟩ := hm r hr
        refine ⟨_, _, q1, q2, fun p => ?_⟩
        have := p.count_eq (a + 1)
        simp at this
      · have q : ¬ l.getD (a + 2) 0 < l.getD (a + 1) 0 := fun z => e2 (mem_steps.mpr ⟨⟨by omega, by omega⟩, by rw [show a + 2 - 1 = a + 1 by omega]; exact z⟩)
        have hc : a + 2 < c := by
          rcases Nat.lt_or_ge (a + 2) c with z | z
          · exact z
          · rw [show c = a + 2 by omega] at h5; exact absurd h5 q
        obtain ⟨i, hi, g1, g2⟩ := step_between (c - (a + 2)) (a + 2) c (by omega) h3 (by omega)
        exact go i hi (by omega) (by omega)
    · obtain ⟨i, hi, g1, g2⟩ := step_between (b - a) a b (by omega) (by omega) h4
      exact go i hi (by omega) (by omega)
/-! ### the first falling triple -/
def bsT (l : List Nat) (a : Nat) : List Nat := (List.range' (a + 1) (l.length - (a + 1))).filter fun b => decide (l.getD b 0 < l.getD a 0)
theorem mem_bsT {l : List Nat} {a b : Nat} : b ∈ bsT l a ↔ a < b ∧ b < l.length ∧ l.getD b 0 < l.getD a 0 := by
  unfold bsT
  rw [List.mem_filter, List.mem_range'_1, decide_eq_true_iff]
  constructor
  · rintro ⟨⟨h1, h2⟩, h3⟩
    exact ⟨by omega, by omega, h3⟩
  · rintro ⟨h1, h2, h3⟩
    exact ⟨⟨by omega, by omega⟩, h3⟩
theorem bsT_srt (l : List Nat) (a : Nat) : (bsT l a).Pairwise (· < ·) := List.Pairwise.filter _ (List.pairwise_lt_range' (s := a + 1) (n := l.length - (a + 1)))
/-- before a fixed a: the first b, the first c -/
structure FTa (l : List Nat) (a b c : Nat) : Prop where
  hb : b ∈ bsT l a
  nb : ∀ b' ∈ bsT l a, b' < b → bsT l b' = []
  hc : c ∈ bsT l b
  nc : ∀ c' ∈ bsT l b, c ≤ c'
structure FT (l : List Nat) (a b c : Nat) : Prop where
  na : ∀ a', a' < a → ∀ b' ∈ bsT l a', bsT l b' = []
  at_ : FTa l a b c
theorem FT.eq {l : List Nat} {a b c a' b' c' : Nat} (h : FT l a b c) (h' : FT l a' b' c') : a = a' ∧ b = b' ∧ c = c' := by
  have no : ∀ {x y : Nat}, x ∈ bsT l y → bsT l y = [] → False := fun m e => by rw [e] at m; cases m
  have ea : a = a' := by
    rcases Nat.lt_trichotomy a a' with q | q | q
    · exact (no h.at_.hc (h'.na a q b h.at_.hb)).elim
    · exact q
    · exact (no h'.at_.hc (h.na a' q b' h'.at_.hb)).elim
  subst ea
  have eb : b = b' := by
    rcases Nat.lt_trichotomy b b' with q | q | q
    · exact (no h.at_.hc (h'.at_.nb b h.at_.hb q)).elim
    · exact q
    · exact (no h'.at_.hc (h.at_.nb b' h'.at_.hb q)).elim
  subst eb
  exact ⟨rfl, rfl, Nat.le_antisymm (h.at_.nc _ h'.at_.hc) (h'.at_.nc _ h.at_.hc)⟩
theorem FT.lt {l : List Nat} {a b c : Nat} (h : FT l a b c) : a < l.length ∧ b < l.length ∧ c < l.length := by
  obtain ⟨h1, h2, _⟩ := mem_bsT.mp h.at_.hb
  obtain ⟨h3, h4, _⟩ := mem_bsT.mp h.at_.hc
  exact ⟨by omega, h2, h4⟩
theorem FT.npl {l : List Nat} {a b c : Nat} (h : FT l a b c) : ¬ Pl l := fun p => by
  obtain ⟨h1, h2, h3⟩ := mem_bsT.mp h.at_.hb
  obtain ⟨h4, h5, h6⟩ := mem_bsT.mp h.at_.hc
  exact p a b c h1 h4 h5 ⟨h3, h6⟩
theorem Pl.of {l : List Nat} (h : ∀ a, a < l.length → ∀ b ∈ bsT l a, bsT l b = []) : Pl l := fun a b c h1 h2 h3 ⟨h4, h5⟩ => by
  have m : c ∈ bsT l b := mem_bsT.mpr ⟨h2, h3, h5⟩
  rw [h a (by omega) b (mem_bsT.mpr ⟨h1, by omega, h4⟩)] at m
  cases m
/-- what both tell -/
def FTv (l : List Nat) (d : D) : Prop := (d = .non ∧ Pl l) ∨ ∃ a b c, d = .tup (dn [a, b, c]) ∧ FT l a b c
theorem FTv.eq {l : List Nat} {d d' : D} (h : FTv l d) (h' : FTv l d') : d = d' := by
  rcases h with ⟨rfl, p⟩ | ⟨a, b, c, rfl, f⟩
  · rcases h' with ⟨rfl, _⟩ | ⟨a, b, c, rfl, f⟩
    · rfl
    · exact absurd p f.npl
  · rcases h' with ⟨rfl, p⟩ | ⟨a', b', c', rfl, f'⟩
    · exact absurd p f.npl
    · obtain ⟨rfl, rfl, rfl⟩ := f.eq f'
      rfl
theorem FTv.non {l : List Nat} {d : D} (h : FTv l d) : d.isNon = true ↔ Pl l := by
  rcases h with ⟨rfl, p⟩ | ⟨a, b, c, rfl, f⟩
  · exact ⟨fun _ => p, fun _ => rfl⟩
  · exact ⟨fun z => (by cases z), fun p => absurd p f.npl⟩
/-! ### an order laid of two rising rows is plain -/
theorem Pl.two {l : List Nat} (χ : Nat → Bool) (h1 : (l.filter χ).Pairwise (· < ·)) (h2 : (l.filter fun x => !χ x).Pairwise (· < ·)) : Pl l := by
  rw [List.pairwise_filter, List.pairwise_iff_getElem] at h1 h2
  have g : ∀ x y, x < y → (hy : y < l.length) → χ (l.getD x 0) = χ (l.getD y 0) → l.getD x 0 < l.getD y 0 := fun x y hxy hy e => by
    have ex : l.getD x 0 = l[x]'(by omega) := by rw [List.getD_eq_getElem?_getD, List.getElem?_eq_getElem (by omega)]; rfl
    have ey : l.getD y 0 = l[y] := by rw [List.getD_eq_getElem?_getD, List.getElem?_eq_getElem hy]; rfl
    rw [ex, ey] at e ⊢
    cases q : χ l[y] with
    | true => rw [q] at e; exact h1 x y (by omega) hy hxy e q
    | false => rw [q] at e; exact h2 x y (by omega) hy hxy (by rw [e]; rfl) (by rw [q]; rfl)
  intro a b c hab hbc hc ⟨h3, h4⟩
  have n1 : χ (l.getD a 0) ≠ χ (l.getD b 0) := fun e => by have := g a b hab (by omega) e; omega
  have n2 : χ (l.getD b 0) ≠ χ (l.getD c 0) := fun e => by have := g b c hbc hc e; omega
  have n3 : χ (l.getD a 0) ≠ χ (l.getD c 0) := fun e => by have := g a c (by omega) hc e; omega
  revert n1 n2 n3
  cases χ (l.getD a 0) <;> cases χ (l.getD b 0) <;> cases χ (l.getD c 0) <;> simp
theorem laid_perm {n : Nat} {l : List Nat} (χ : Nat → Bool) (h1 : l.filter χ = (List.range n).filter χ) (h2 : (l.filter fun x => !χ x) = (List.range n).filter fun x => !χ x) : l.Perm (List.range n) := by
  have e := List.filter_append_perm χ l
  have e2 := List.filter_append_perm χ (List.range n)
  rw [h1, h2] at e
  exact e.symm.trans e2
theorem laid_plain {n : Nat} {l : List Nat} (χ : Nat → Bool) (h1 : l.filter χ = (List.range n).filter χ) (h2 : (l.filter fun x => !χ x) = (List.range n).filter fun x => !χ x) : Pl l := by
  refine Pl.two χ ?_ ?_
  · rw [h1]; exact List.Pairwise.filter _ List.pairwise_lt_range
  · rw [h2]; exact List.Pairwise.filter _ List.pairwise_lt_range
/-! ### sorted lists of levels -/
def srN (l : List Nat) : List Nat := srtL (fun i j => decide (i < j)) l
theorem ins_dn (x : Nat) : ∀ l : List Nat, insL (fun i j : Int => decide (i < j)) (x : Int) (l.map fun (i : Nat) => (i : Int)) = (insL (fun i j => decide (i < j)) x l).map fun (i : Nat) => (i : Int)
  | [] => rfl
  | y :: l => by
    rw [List.map_cons, insL, insL]
    by_cases h : x < y
    · rw [if_pos (by rw [decide_eq_true_iff]; omega), if_pos (by rw [decide_eq_true_iff]; exact h)]
      rfl
    · rw [if_neg (by rw [decide_eq_true_iff]; omega), if_neg (by rw [decide_eq_true_iff]; exact h), ins_dn x l]
      rfl
theorem srt_dn : ∀ l : List Nat, srtL (fun i j : Int => decide (i < j)) (l.map fun (i : Nat) => (i : Int)) = (srN l).map fun (i : Nat) => (i : Int)
  | [] => rfl
  | x :: l => by
    rw [List.map_cons, srtL, srt_dn l, ins_dn]
    rfl
theorem ints_dn : ∀ l : List Nat, ints? (dn l) = some (l.map fun (i : Nat) => (i : Int))
  | [] => rfl
  | x :: l => by
    show (ints? (dn l)).map (_ :: ·) = _
    rw [ints_dn l]
    rfl
theorem b1_srN (l : List Nat) : b1D .sorted (.lst (dn l)) = some (.ow (dn (srN l))) := by
  show (match ints? (dn l) with
    | some is => some (Vl.ow ((srtL (fun i j : Int => decide (i < j)) is).map .int))
    | none => _) = _
  rw [ints_dn]
  show some (Vl.ow ((srtL _ _).map D.int)) = _
  rw [srt_dn, List.map_map]
  rfl
theorem ins_perm (x : Nat) : ∀ l : List Nat, (insL (fun i j => decide (i < j)) x l).Perm (x :: l)
  | [] => List.Perm.refl _
  | y :: l => by
    rw [insL]
    split
    · exact List.Perm.refl _
    · exact ((ins_perm x l).cons y).trans (List.Perm.swap x y l)
theorem srN_perm : ∀ l : List Nat, (srN l).Perm l
  | [] => List.Perm.refl _
  | x :: l => (ins_perm x (srN l)).trans ((srN_perm l).cons x)
theorem ins_srt (x : Nat) : ∀ {l : List Nat}, l.Pairwise (· ≤ ·) → (insL (fun i j => decide (i < j)) x l).Pairwise (· ≤ ·)
  | [], _ => List.pairwise_singleton _ _
  | y :: l, h => by
    obtain ⟨h1, h2⟩ := List.pairwise_cons.mp h
    rw [insL]
    split
    · rename_i q
      have q : x < y := of_decide_eq_true q
      exact List.pairwise_cons.mpr ⟨fun z hz => by
        rcases List.mem_cons.mp hz with rfl | hz
        · omega
        · have := h1 z hz; omega, h⟩
    · rename_i q
      have q : ¬ x < y := fun z => q (decide_eq_true z)
      refine List.pairwise_cons.mpr ⟨fun z hz => ?_, ins_srt x h2⟩
      rcases List.mem_cons.mp ((ins_perm x l).mem_iff.mp hz) with rfl | hz
      · omega
      · exact h1 z hz
theorem srN_srt : ∀ l : List Nat, (srN l).Pairwise (· ≤ ·)
  | [] => List.Pairwise.nil
  | x :: l => ins_srt x (srN_srt l)
theorem srt_eq : ∀ {l m : List Nat}, l.Pairwise (· ≤ ·) → m.Pairwise (· ≤ ·) → l.Perm m → l = m
  | [], m, _, _, p => p.nil_eq
  | x :: l, [], _, _, p => absurd p.length_eq (by simp)
  | x :: l, y :: m, h1, h2, p => by
    obtain ⟨a1, a2⟩ := List.pairwise_cons.mp h1
    obtain ⟨b1, b2⟩ := List.pairwise_cons.mp h2
    have e : x = y := by
      have m1 := p.mem_iff.mp (List.mem_cons_self (a := x) (l := l))
      have m2 := p.mem_iff.mpr (List.mem_cons_self (a := y) (l := m))
      rcases List.mem_cons.mp m1 with e | e
      · exact e
      · rcases List.mem_cons.mp m2 with e2 | e2
        · exact e2.symm
        · have := a1 y e2; have := b1 x e; omega
    subst e
    rw [srt_eq a2 b2 (List.perm_cons x |>.mp p)]
theorem srN_eq {l m : List Nat} : srN l = srN m ↔ l.Perm m :=
  ⟨fun e => (srN_perm l).symm.trans (by rw [e]; exact srN_perm m), fun p => srt_eq (srN_srt l) (srN_srt m) ((srN_perm l).trans (p.trans (srN_perm m).symm))⟩
/-- all level rows have the first one's levels exactly if the order is plain -/
theorem all_same {l r : List Nat} {rs : List (List Nat)} (e : lr l = r :: rs) : ((lr l).map srN).filter (fun x => !decide (x = srN r)) = [] ↔ Pl l := by
  constructor
  · intro h
    refine Classical.byContradiction fun n => ?_
    obtain ⟨a, b, h1, h2, h3⟩ := NPl _ (Nat.le_refl _) n
    have al : ∀ x, LR l x → srN x = srN r := fun x hx => by
      refine Classical.byContradiction fun z => ?_
      have m : srN x ∈ ((lr l).map srN).filter (fun x => !decide (x = srN r)) := List.mem_filter.mpr ⟨List.mem_map.mpr ⟨x, lr_mem.mpr hx, rfl⟩, by rw [decide_eq_false z]; rfl⟩
      rw [h] at m
      cases m
    exact h3 (srN_eq.mp ((al a h1).trans (al b h2).symm))
  · intro p
    refine List.filter_eq_nil_iff.mpr fun x hx => ?_
    obtain ⟨y, hy, rfl⟩ := List.mem_map.mp hx
    have hr : LR l r := lr_mem.mp (by rw [e]; exact List.mem_cons_self)
    rw [decide_eq_true (srN_eq.mpr (p.perm _ (Nat.le_refl _) (lr_mem.mp hy) hr))]
    simp
/-! ### inversions -/
def inv (l : List Nat) : Nat := ((List.range l.length).map fun a => ((List.range a).filterMap fun b => if l.getD a 0 < l.getD b 0 then some (D.int ((b : Nat) : Int)) else none).length).sum
theorem cnt_snoc (x : Nat) : ∀ l : List Nat, cnt (l ++ [x]) = cnt l + l.countP fun y => decide (x < y)
  | [] => rfl
  | y :: l => by
    rw [List.cons_append, cnt, cnt, cnt_snoc x l, List.countP_append, List.countP_cons (l := l)]
    have e : List.countP (fun z => decide (z < y)) [x] = if decide (x < y) = true then 1 else 0 := by
      rw [List.countP_cons, List.countP_nil, Nat.zero_add]
    rw [e]
    omega
theorem fm_cong {α β : Type} {f g : α → Option β} : ∀ {l : List α}, (∀ x ∈ l, f x = g x) → l.filterMap f = l.filterMap g
  | [], _ => rfl
  | x :: l, h => by rw [List.filterMap_cons, List.filterMap_cons, h x List.mem_cons_self, fm_cong fun y hy => h y (List.mem_cons_of_mem _ hy)]
theorem inv_at (l m : List Nat) {a : Nat} (ha : a < l.length) : ((List.range a).filterMap fun b => if (l ++ m).getD a 0 < (l ++ m).getD b 0 then some (D.int ((b : Nat) : Int)) else none) = ((List.range a).filterMap fun b => if l.getD a 0 < l.getD b 0 then some (D.int ((b : Nat) : Int)) else none) := by
  refine fm_cong fun b hb => ?_
  have hb := List.mem_range.mp hb
  rw [List.getD_eq_getElem?_getD, List.getD_eq_getElem?_getD, List.getElem?_append_left ha, List.getElem?_append_left (by omega), List.getD_eq_getElem?_getD, List.getD_eq_getElem?_getD]
theorem inv_last (l : List Nat) (x : Nat) : ((List.range l.length).filterMap fun b => if (l ++ [x]).getD l.length 0 < (l ++ [x]).getD b 0 then some (D.int ((b : Nat) : Int)) else none).length = l.countP fun y => decide (x < y) := by
  have e : (l ++ [x]).getD l.length 0 = x := by rw [List.getD_eq_getElem?_getD, List.getElem?_append_right (Nat.le_refl _), Nat.sub_self]; rfl
  rw [e]
  have e2 : ((List.range l.length).filterMap fun b => if x < (l ++ [x]).getD b 0 then some (D.int ((b : Nat) : Int)) else none) = ((List.range l.length).filterMap fun b => if x < l.getD b 0 then some (D.int ((b : Nat) : Int)) else none) := by
    refine fm_cong fun b hb => ?_
    have hb := List.mem_range.mp hb
    rw [List.getD_eq_getElem?_getD, List.getElem?_append_left hb, List.getD_eq_getElem?_getD]
  rw [e2]
  have e3 : ∀ (f : Nat → Nat) (ks : List Nat), (ks.filterMap fun b => if x < f b then some (D.int ((b : Nat) : Int)) else none).length = (ks.map f).countP fun y => decide (x < y) := fun f ks => by
    induction ks with
    | nil => rfl
    | cons k ks ih =>
      rw [List.filterMap_cons, List.map_cons, List.countP_cons]
      by_cases q : x < f k
      · rw [if_pos q, if_pos (decide_eq_true q)]
        show (List.filterMap _ ks).length + 1 = _
        rw [ih]
      · rw [if_neg q, if_neg (by rw [decide_eq_false q]; exact Bool.false_ne_true), Nat.add_zero]
        exact ih
  rw [e3]
  congr 1
  refine List.ext_getElem (by rw [List.length_map, List.length_range]) fun k h1 h2 => ?_
  rw [List.getElem_map, List.getElem_range, List.getD_eq_getElem?_getD, List.getElem?_eq_getElem h2]
  rfl
theorem revInd {P : List Nat → Prop} (h0 : P []) (hs : ∀ u x, P u → P (u ++ [x])) (u : List Nat) : P u := by
  have : ∀ v : List Nat, P v.reverse := fun v => by
    induction v with
    | nil => exact h0
    | cons x v ih => rw [List.reverse_cons]; exact hs _ x ih
  rw [← List.reverse_reverse u]
  exact this _
theorem inv_cnt (l : List Nat) : inv l = cnt l := by
  refine revInd (P := fun l => inv l = cnt l) rfl (fun l x ih => ?_) l
  rw [cnt_snoc, ← ih]
  unfold inv
  rw [List.length_append, List.length_singleton, List.range_succ, List.map_append, List.sum_append]
  congr 1
  · congr 1
    refine map_cong fun a ha => ?_
    rw [inv_at l [x] (List.mem_range.mp ha)]
  · show [_].sum = _
    rw [List.sum_cons, List.sum_nil, Nat.add_zero]
    exact inv_last l x
end K
set_option Elab.async false
set_option linter.all false
set_option maxRecDepth 100000
set_option maxHeartbeats 0
open PySem VI L2
namespace K
theorem dn_map (f : Nat → Nat) (l : List Nat) : (l.map fun i => D.int ((f i : Nat) : Int)) = dn (l.map f) := by
  unfold dn
  rw [List.map_map]
  rfl
local macro_rules | `(tactic| fail "v_call") => `(tactic| (apply op2_; fail "v_gt"; fail "v_gt"; with_reducible exact ix_dnT (by omega)))
/-- _law_inversions -/
theorem sp13 {k : Nat} {l : List Nat} (hl : l.length ≤ 1000) {S : So} {Q : Vl → So → Prop} {R : Exc → So → Prop} (q : Q (.fz (.int ((inv l : Nat) : Int))) S) : WC tab fuel (k + 1) (.f 13) [.tup (dn l)] S Q R := by
  refine wc_fd (fd := ⟨1, 3, b13⟩) rfl rfl ?_
  show WSS _ b13 [some (.fz (.tup (dn l))), none, none] S _
  unfold b13
  repeat' fail "v1"
  refine we_compM (List.range l.length) (fun i => D.int (i : Nat)) (fun a => D.int ((((List.range a).filterMap fun b => if l.getD a 0 < l.getD b 0 then some (D.int ((b : Nat) : Int)) else none).length : Nat) : Int)) ?_
  repeat' fail "v1"
  refine ⟨by rw [dn_length]; exact it_rng1 (by omega), by rw [List.length_range]; simp only [lim]; omega, fun a ha => ?_, ?_⟩
  · have ha := List.mem_range.mp ha
    refine wt_ (by rfl) ?_
    repeat' fail "v1"
    refine we_compMF (List.range a) (fun i => D.int (i : Nat)) (fun b => if l.getD a 0 < l.getD b 0 then some (D.int ((b : Nat) : Int)) else none) ?_
    repeat' fail "v1"
    refine ⟨it_rng1 (by omega), by rw [List.length_range]; simp only [lim]; omega, fun b hb => ?_, ?_⟩
    · have hb := List.mem_range.mp hb
      refine wt_ (by rfl) ?_
      repeat' fail "v1"
      · have hq : l.getD a 0 < l.getD b 0 := by
          have hb' : ((l.getD ((a : Nat) : Int).toNat 0 : Nat) : Int) < ((l.getD ((b : Nat) : Int).toNat 0 : Nat) : Int) := by assumption
          rw [Int.toNat_natCast, Int.toNat_natCast] at hb'
          omega
        exact ⟨by rw [if_pos hq]; rfl, rfl, rfl⟩
      · have hq : ¬ l.getD a 0 < l.getD b 0 := by
          have hb' : ¬ ((l.getD ((a : Nat) : Int).toNat 0 : Nat) : Int) < ((l.getD ((b : Nat) : Int).toNat 0 : Nat) : Int) := by assumption
          rw [Int.toNat_natCast, Int.toNat_natCast] at hb'
          omega
        exact ⟨by rw [if_neg hq], rfl, rfl⟩
    · refine op1_ gt_vl b1_lenL ?_
      exact ⟨rfl, rfl, rfl⟩
  · rw [dn_map (fun a => ((List.range a).filterMap fun b => if l.getD a 0 < l.getD b 0 then some (D.int ((b : Nat) : Int)) else none).length)]
    refine op1_ gt_ow (b1_sum _) ?_
    repeat' fail "v1"
    exact q
theorem fm_filter {P : Nat → Prop} [DecidablePred P] {f : Nat → D} : ∀ l : List Nat, l.filterMap (fun b => if P b then some (f b) else none) = (l.filter fun b => decide (P b)).map f
  | [] => rfl
  | b :: l => by
    rw [List.filterMap_cons, List.filter_cons]
    by_cases h : P b
    · rw [if_pos h, if_pos (decide_eq_true h), fm_filter l]; rfl
    · rw [if_neg h, if_neg (by rw [decide_eq_false h]; exact Bool.false_ne_true), fm_filter l]
def rowsT (T : List (List Nat)) : List D := T.map fun t => D.tup (dn t)
theorem rowsT_len (T : List (List Nat)) : (rowsT T).length = T.length := List.length_map _
theorem ne_rowsT {T : List (List Nat)} (h : ∀ t ∈ T, ∀ x ∈ t, x < 10 ^ 12) : cmpD .ne (.lst (rowsT T)) (.lst []) = some (!decide (T = [])) := by
  have h1 : D.sms 1 (rowsT T) = true := D.sms_all.mpr fun x hx => by
    obtain ⟨t, ht, rfl⟩ := List.mem_map.mp hx
    exact dn_sms (h t ht) 0
  have h2 : D.nbss (rowsT T) = true := by
    clear h1
    induction T with
    | nil => rfl
    | cons t T ih =>
      show D.nbss (D.tup (dn t) :: rowsT T) = true
      rw [D.nbss, ih fun t ht => h t (List.mem_cons_of_mem _ ht), D.nbs, dn_nbss]
      rfl
  rw [cmp_ne_sm 2 (by rw [D.sm]; exact h1) rfl (by rw [D.nbs]; exact h2) rfl (by decide)]
  refine congrArg some (congrArg (!·) ?_)
  rw [Bool.eq_iff_iff]
  cases T <;> simp [rowsT]
theorem rg_at {s m : Nat} {j i : Nat} (h : (List.range' s m)[j]? = some i) : i = s + j ∧ j < m := by
  obtain ⟨h1, h2⟩ := List.getElem?_eq_some_iff.mp h
  rw [List.getElem_range', Nat.one_mul] at h2
  rw [List.length_range'] at h1
  exact ⟨h2.symm, h1⟩
local macro_rules | `(tactic| fail "v_call") => `(tactic| first | (apply op2_; fail "v_gt"; fail "v_gt"; with_reducible first | exact ix_dnT (by omega) | assumption))
/-- falling_places -/
theorem sp7 {k : Nat} {l : List Nat} (hl : l.length ≤ 40) {S : So} {Q : Vl → So → Prop} {R : Exc → So → Prop} (q : ∀ d, FTv l d → Q (.fz d) S) : WC tab fuel (k + 1) (.f 7) [.tup (dn l)] S Q R := by
  refine wc_fd (fd := ⟨1, 5, b7⟩) rfl rfl ?_
  show WSS _ b7 [some (.fz (.tup (dn l))), none, none, none, none] S _
  unfold b7
  repeat' fail "v1"
  refine ⟨_, it_enum rfl, ?_⟩
  refine wf_ind (fun done ρ S' => S' = S ∧ ∃ x1 x2 x3 x4, ρ = [some (.fz (.tup (dn l))), x1, x2, x3, x4] ∧ ∀ a, a < done.length → ∀ b ∈ bsT l a, bsT l b = []) _ ⟨rfl, none, none, none, none, rfl, fun a h => absurd h (Nat.not_lt_zero _)⟩ ?_ ?_
  · rintro done d rest ρ S' e ⟨rfl, x1, x2, x3, x4, rfl, hN⟩
    obtain ⟨v, h1, rfl, h3⟩ := enum_at e
    generalize hda : done.length = a at *
    have ha : a < l.length := by have := (List.getElem?_eq_some_iff.mp h1).1; rw [dn_length] at this; exact this
    have hv : v = .int ((l.getD a 0 : Nat) : Int) := by
      unfold dn at h1
      rw [List.getElem?_map, List.getElem?_eq_getElem ha] at h1
      rw [List.getD_eq_getElem?_getD, List.getElem?_eq_getElem ha]
      exact (Option.some.inj h1).symm
    subst hv
    refine ⟨_, rfl, ?_⟩
    repeat' fail "v1"
    refine ⟨_, by rw [show ((a : Nat) : Int) + 1 = ((a + 1 : Nat) : Int) by omega, dn_length]; exact it_rng2 (by omega) (by omega), ?_⟩
    refine wf_ind (fun done2 ρ S2 => S2 = S' ∧ ∃ x3 x4, ρ = [some (.fz (.tup (dn l))), some (.fz (.int (a : Nat))), some (.fz (.int ((l.getD a 0 : Nat) : Int))), x3, x4] ∧ ∀ b ∈ bsT l a, b < a + 1 + done2.length → bsT l b = []) _ ⟨rfl, x3, x4, rfl, fun b hb h => by have := (mem_bsT.mp hb).1; simp at h; omega⟩ ?_ ?_
    · rintro done2 d2 rest2 ρ S2 e2 ⟨rfl, x3, x4, rfl, hB⟩
      obtain ⟨b, hbn, rfl⟩ := dn_at e2
      obtain ⟨hb, hb2⟩ := rg_at hbn
      refine ⟨_, rfl, ?_⟩
      repeat' fail "v1"
      refine ⟨_, by rw [show ((b : Nat) : Int) + 1 = ((b + 1 : Nat) : Int) by omega, dn_length]; exact it_rng2 (by omega) (by omega), ?_⟩
      refine wf_ind (fun done3 ρ S3 => S3 = S2 ∧ ∃ x4, ρ = [some (.fz (.tup (dn l))), some (.fz (.int (a : Nat))), some (.fz (.int ((l.getD a 0 : Nat) : Int))), some (.fz (.int (b : Nat))), x4] ∧ (b ∈ bsT l a → ∀ c ∈ bsT l b, b + 1 + done3.length ≤ c)) _ ⟨rfl, x4, rfl, fun _ c hc => by have := (mem_bsT.mp hc).1; simp; omega⟩ ?_ ?_
      · rintro done3 d3 rest3 ρ S3 e3 ⟨rfl, x4, rfl, hC⟩
        obtain ⟨c, hcn, rfl⟩ := dn_at e3
        obtain ⟨hc, hc2⟩ := rg_at hcn
        refine ⟨_, rfl, ?_⟩
        repeat' fail "v1"
        · rename_i g1 g2
          rw [Int.toNat_natCast] at g1 g2
          rw [Int.toNat_natCast] at g2
          have mb : b ∈ bsT l a := mem_bsT.mpr ⟨by omega, by omega, by omega⟩
          have mc : c ∈ bsT l b := mem_bsT.mpr ⟨by omega, by omega, by omega⟩
          refine q _ (.inr ⟨a, b, c, rfl, fun a' h b' hb' => hN a' h b' hb', mb, fun b' hb' h => hB b' hb' (by omega), mc, fun c' hc' => ?_⟩)
          have := hC mb c' hc'
          omega
        · rename_i g1 g2
          rw [Int.toNat_natCast] at g1 g2
          rw [Int.toNat_natCast] at g2
          refine ⟨rfl, _, rfl, fun mb c' hc' => ?_⟩
          have h5 := hC mb c' hc'
          rw [List.length_append, List.length_singleton]
          by_cases ec : c' = c
          · subst ec
            have := (mem_bsT.mp hc').2.2
            omega
          · omega
        · rename_i g1
          rw [Int.toNat_natCast] at g1
          refine ⟨rfl, _, rfl, fun mb c' hc' => ?_⟩
          have := (mem_bsT.mp mb).2.2
          omega
      · rintro ρ S3 ⟨rfl, x4, rfl, hC⟩
        rw [dn_length, List.length_range'] at hC
        repeat' fail "v1"
        refine ⟨rfl, _, _, rfl, fun b' hb' h => ?_⟩
        rw [List.length_append, List.length_singleton] at h
        by_cases eb : b' = b
        · subst eb
          cases hz : bsT l b' with
          | nil => rfl
          | cons c cs =>
            have mc : c ∈ bsT l b' := by rw [hz]; exact List.mem_cons_self
            have h5 := hC hb' c mc
            have h6 := (mem_bsT.mp mc).2.1
            omega
        · exact hB b' hb' (by omega)
    · rintro ρ S2 ⟨rfl, x3, x4, rfl, hB⟩
      rw [dn_length, List.length_range'] at hB
      repeat' fail "v1"
      refine ⟨rfl, _, _, _, _, rfl, fun a' h b' hb' => ?_⟩
      rw [List.length_append, List.length_singleton] at h
      by_cases ea : a' = a
      · subst ea
        have := (mem_bsT.mp hb').2.1
        exact hB b' hb' (by omega)
      · exact hN a' (by omega) b' hb'
  · rintro ρ S' ⟨rfl, x1, x2, x3, x4, rfl, hN⟩
    rw [List.length_map, List.length_zipIdx, dn_length] at hN
    repeat' fail "v1"
    exact q _ (.inl ⟨rfl, Pl.of hN⟩)
local macro_rules | `(tactic| fail "v_call") => `(tactic| first | (refine sp7 (by assumption) fun d hd => ?_))
/-- is_plain -/
theorem sp8 {k : Nat} {l : List Nat} (hl : l.length ≤ 40) {S : So} {Q : Vl → So → Prop} {R : Exc → So → Prop} (q : ∀ b : Bool, (b = true ↔ Pl l) → Q (.fz (.bl b)) S) : WC tab fuel (k + 2) (.f 8) [.tup (dn l)] S Q R := by
  refine wc_fd (fd := ⟨1, 1, b8⟩) rfl rfl ?_
  show WSS _ b8 [some (.fz (.tup (dn l)))] S _
  unfold b8
  repeat' fail "v1"
  exact q _ (by rename_i hd; exact hd.non)
local macro_rules | `(tactic| fail "v_call") => `(tactic| first | (apply op2_; fail "v_gt"; fail "v_gt"; with_reducible first | exact ix_dnT (by omega) | assumption))
theorem sp17 {k : Nat} {l : List Nat} (hl : l.length ≤ 40) {S : So} {Q : Vl → So → Prop} {R : Exc → So → Prop} (q : ∀ d, FTv l d → Q (.fz d) S) : WC tab fuel (k + 1) (.f 17) [.tup (dn l)] S Q R := by
  refine wc_fd (fd := ⟨1, 5, b17⟩) rfl rfl ?_
  show WSS _ b17 [some (.fz (.tup (dn l))), none, none, none, none] S _
  unfold b17
  repeat' fail "v1"
  refine wf_ind (fun done ρ S' => S' = S ∧ ∃ x2 x3 x4, ρ = [some (.fz (.tup (dn l))), some (.ow []), x2, x3, x4] ∧ ∀ a, a < done.length → ∀ b ∈ bsT l a, bsT l b = []) _ ⟨rfl, none, none, none, rfl, fun a h => absurd h (Nat.not_lt_zero _)⟩ ?_ ?_
  · rintro done d rest ρ S' e ⟨rfl, x2, x3, x4, rfl, hN⟩
    obtain ⟨rfl, ha⟩ := rng_at e
    rw [dn_length] at ha
    generalize hda : done.length = a at *
    refine ⟨_, rfl, ?_⟩
    repeat' fail "v1"
    refine we_compMF (List.range' (a + 1) (l.length - (a + 1))) (fun b => D.int (b : Nat)) (fun b => if l.getD b 0 < l.getD a 0 then some (D.int ((b : Nat) : Int)) else none) ?_
    repeat' fail "v1"
    refine ⟨by rw [show ((a : Nat) : Int) + 1 = ((a + 1 : Nat) : Int) by omega, dn_length]; exact it_rng2 (by omega) (by omega), by rw [List.length_range']; simp only [lim]; omega, fun b hb => ?_, ?_⟩
    · have hb := List.mem_range'_1.mp hb
      refine wt_ (by rfl) ?_
      repeat' fail "v1"
      · rename_i hq
        exact ⟨by rw [if_pos (by simpa using hq)]; rfl, rfl, rfl⟩
      · rename_i hq
        exact ⟨by rw [if_neg (by simpa using hq)], rfl, rfl⟩
    rw [fm_filter (P := fun b => l.getD b 0 < l.getD a 0)]
    show WL _ _ _ _ _ _
    refine wl_nil ⟨_, it_lst, ?_⟩
    show WFor _ _ _ (dn (bsT l a)) _ _ _
    refine wf_ind (fun done2 ρ S2 => S2 = S' ∧ ∃ (T : List (List Nat)) (x3 x4 : Sl), ρ = [some (.fz (.tup (dn l))), some (.ow (rowsT T)), some (.fz (.int (a : Nat))), x3, x4] ∧ T.length ≤ done2.length ∧ (∀ t ∈ T, ∀ x ∈ t, x < 10 ^ 12) ∧ ((T = [] ∧ ∀ b ∈ (bsT l a).take done2.length, bsT l b = []) ∨ ∃ b c T', T = [a, b, c] :: T' ∧ FTa l a b c)) _ ⟨rfl, [], x3, x4, rfl, Nat.le_refl _, (fun t ht => by cases ht), .inl ⟨rfl, fun b hb => by cases hb⟩⟩ ?_ ?_
    · rintro done2 d2 rest2 ρ S2 e2 ⟨rfl, T, x3, x4, rfl, hTl, hTs, hT0⟩
      obtain ⟨b, hbn, rfl⟩ := dn_at e2
      obtain ⟨b1, b2, b3⟩ := mem_bsT.mp (List.mem_of_getElem? hbn)
      have hlen : (bsT l a).length ≤ 40 := by
        unfold bsT
        refine Nat.le_trans (List.length_filter_le _ _) ?_
        rw [List.length_range']
        omega
      have hdl : done2.length < (bsT l a).length := (List.getElem?_eq_some_iff.mp hbn).1
      refine ⟨_, rfl, ?_⟩
      repeat' fail "v1"
      refine we_compMF (List.range' (b + 1) (l.length - (b + 1))) (fun c => D.int (c : Nat)) (fun c => if l.getD c 0 < l.getD b 0 then some (D.tup (dn [a, b, c])) else none) ?_
      repeat' fail "v1"
      refine ⟨by rw [show ((b : Nat) : Int) + 1 = ((b + 1 : Nat) : Int) by omega, dn_length]; exact it_rng2 (by omega) (by omega), by rw [List.length_range']; simp only [lim]; omega, fun c hc => ?_, ?_⟩
      · have hc := List.mem_range'_1.mp hc
        refine wt_ (by rfl) ?_
        repeat' fail "v1"
        · rename_i hq
          exact ⟨by rw [if_pos (by simpa using hq)]; rfl, rfl, rfl⟩
        · rename_i hq
          exact ⟨by rw [if_neg (by simpa using hq)], rfl, rfl⟩
      rw [fm_filter (P := fun c => l.getD c 0 < l.getD b 0) (f := fun c => D.tup (dn [a, b, c]))]
      have e3 : ((List.range' (b + 1) (l.length - (b + 1))).filter fun c => decide (l.getD c 0 < l.getD b 0)).map (fun c => D.tup (dn [a, b, c])) = rowsT ((bsT l b).map fun c => [a, b, c]) := by
        unfold rowsT bsT
        rw [List.map_map]
        rfl
      rw [e3]
      repeat' fail "v1"
      have e4 : cut (rowsT ((bsT l b).map fun c => [a, b, c])) none (some 1) = rowsT (((bsT l b).map fun c => [a, b, c]).take 1) := by
        have := cut_to (rowsT ((bsT l b).map fun c => [a, b, c])) 1
        rw [show ((1 : Nat) : Int) = 1 from rfl] at this
        rw [this]
        unfold rowsT
        rw [List.map_take]
      rw [e4]
      apply op2_; fail "v_gt"; fail "v_gt"
      exact bin_addL (by rw [rowsT_len, rowsT_len, List.length_take]; simp only [lim]; omega)
      have e5 : ∀ A B : List (List Nat), rowsT A ++ rowsT B = rowsT (A ++ B) := fun A B => List.map_append.symm
      rw [e5]
      repeat' fail "v1"
      refine ⟨rfl, T ++ ((bsT l b).map fun c => [a, b, c]).take 1, _, _, rfl, ?_, fun t ht x hx => ?_, ?_⟩
      · rw [List.length_append, List.length_append, List.length_take, List.length_singleton]
        omega
      · rcases List.mem_append.mp ht with ht | ht
        · exact hTs t ht x hx
        · obtain ⟨c, hc, rfl⟩ := List.mem_map.mp (List.mem_of_mem_take ht)
          have := (mem_bsT.mp hc).2.1
          rcases List.mem_cons.mp hx with rfl | hx
          · omega
          · rcases List.mem_cons.mp hx with rfl | hx
            · omega
            · rw [List.mem_singleton.mp hx]; omega
      · rcases hT0 with ⟨rfl, hT0⟩ | ⟨b0, c0, T', rfl, hF⟩
        · cases hz : bsT l b with
          | nil =>
            refine .inl ⟨rfl, fun b' hb' => ?_⟩
            rw [List.length_append, List.length_singleton, List.take_add_one, hbn] at hb'
            rcases List.mem_append.mp hb' with hb' | hb'
            · exact hT0 b' hb'
            · rw [show b' = b by simpa using hb']
              exact hz
          | cons c cs =>
            refine .inr ⟨b, c, [], rfl, List.mem_of_getElem? hbn, fun b' hb' h => hT0 b' ?_, by rw [hz]; exact List.mem_cons_self, fun c' hc' => ?_⟩
            · obtain ⟨i, hi⟩ := List.mem_iff_getElem?.mp hb'
              obtain ⟨i1, i2⟩ := List.getElem?_eq_some_iff.mp hi
              obtain ⟨j1, j2⟩ := List.getElem?_eq_some_iff.mp hbn
              have sr := List.pairwise_iff_getElem.mp (bsT_srt l a)
              rcases Nat.lt_trichotomy i done2.length with z | z | z
              · refine List.mem_of_getElem? (i := i) ?_
                rw [List.getElem?_take_of_lt z]
                exact hi
              · subst z; rw [hbn] at hi; have := Option.some.inj hi; omega
              · have := sr _ _ j1 i1 z; omega
            · have sr := bsT_srt l b
              rw [hz] at sr hc'
              rcases List.mem_cons.mp hc' with rfl | hc'
              · exact Nat.le_refl _
              · exact Nat.le_of_lt ((List.pairwise_cons.mp sr).1 c' hc')
        · exact .inr ⟨b0, c0, _, rfl, hF⟩
    · rintro ρ S2 ⟨rfl, T, x3, x4, rfl, hTl, hTs, hT0⟩
      rw [dn_length, List.take_of_length_le (Nat.le_refl _)] at hT0
      have hne := ne_rowsT hTs
      repeat' fail "v1"
      apply op3_; fail "v_gt"; fail "v_gt"; (focus exact hne)
      repeat' fail "v1"
      · rename_i hz
        subst hz
        refine ⟨rfl, _, _, _, rfl, fun a' h1 b' hb' => ?_⟩
        rw [List.length_append, List.length_singleton] at h1
        rcases hT0 with ⟨_, hT0⟩ | ⟨b0, c0, T', z, _⟩
        · by_cases q : a' = a
          · subst q; exact hT0 b' hb'
          · exact hN a' (by omega) b' hb'
        · cases z
      · rename_i hz
        rcases hT0 with ⟨z, _⟩ | ⟨b0, c0, T', rfl, hF⟩
        · exact absurd z hz
        · apply op2_; fail "v_gt"; fail "v_gt"; (focus exact ixD_lst (i := 0) rfl)
          repeat' fail "v1"
          exact q _ (.inr ⟨a, b0, c0, rfl, fun a' h => hN a' h, hF⟩)
  · rintro ρ S' ⟨rfl, x2, x3, x4, rfl, hN⟩
    rw [dn_length, List.length_range] at hN
    repeat' fail "v1"
    refine q _ (.inl ⟨rfl, Pl.of fun a ha => hN a ?_⟩)
    have : (dn l).length = l.length := dn_length l
    omega
end K
set_option Elab.async false
set_option linter.all false
set_option maxRecDepth 100000
set_option maxHeartbeats 0
open PySem VI L2
namespace K
theorem filt_len {α : Type} (χ : α → Bool) : ∀ l : List α, (l.filter χ).length + (l.filter fun x => !χ x).length = l.length
  | [] => rfl
  | x :: l => by
    have := filt_len χ l
    rw [List.filter_cons, List.filter_cons]
    cases χ x <;> simp <;> omega
/-- two rows and what is laid of them so far -/
structure Laid (n : Nat) (χ : Nat → Bool) (l u v : List Nat) : Prop where
  h1 : l.filter χ ++ u = (List.range n).filter χ
  h2 : (l.filter fun x => !χ x) ++ v = (List.range n).filter fun x => !χ x
theorem Laid.len {n : Nat} {χ : Nat → Bool} {l u v : List Nat} (h : Laid n χ l u v) : l.length + (u.length + v.length) = n := by
  have a := filt_len χ l
  have b := filt_len χ (List.range n)
  have c := congrArg List.length h.h1
  have d := congrArg List.length h.h2
  rw [List.length_append] at c d
  rw [List.length_range] at b
  omega
theorem Laid.one {n x : Nat} {χ : Nat → Bool} {l u v : List Nat} (h : Laid n χ l (x :: u) v) : Laid n χ (l ++ [x]) u v := by
  have hx : χ x = true := by
    have m : x ∈ (List.range n).filter χ := by rw [← h.h1]; simp
    exact (List.mem_filter.mp m).2
  refine ⟨?_, ?_⟩
  · rw [← h.h1, List.filter_append, List.filter_cons, if_pos hx, List.append_assoc]; rfl
  · rw [← h.h2, List.filter_append, List.filter_cons, if_neg (by rw [hx]; exact Bool.false_ne_true), List.filter_nil, List.append_nil]
theorem Laid.two {n x : Nat} {χ : Nat → Bool} {l u v : List Nat} (h : Laid n χ l u (x :: v)) : Laid n χ (l ++ [x]) u v := by
  have hx : (!χ x) = true := by
    have m : x ∈ (List.range n).filter fun x => !χ x := by rw [← h.h2]; simp
    exact (List.mem_filter.mp m).2
  have hx2 : χ x = false := by simpa using hx
  refine ⟨?_, ?_⟩
  · rw [← h.h1, List.filter_append, List.filter_cons, if_neg (by rw [hx2]; exact Bool.false_ne_true), List.filter_nil, List.append_nil]
  · rw [← h.h2, List.filter_append, List.filter_cons, if_pos hx, List.append_assoc]; rfl
theorem Laid.small {n : Nat} {χ : Nat → Bool} {l u v : List Nat} (h : Laid n χ l u v) (hn : n ≤ 1000) : (∀ x ∈ u, x < 10 ^ 12) ∧ ∀ x ∈ v, x < 10 ^ 12 := by
  refine ⟨fun x hx => ?_, fun x hx => ?_⟩
  · have m : x ∈ (List.range n).filter χ := by rw [← h.h1]; exact List.mem_append_right _ hx
    have := List.mem_range.mp (List.mem_filter.mp m).1
    omega
  · have m : x ∈ (List.range n).filter fun x => !χ x := by rw [← h.h2]; exact List.mem_append_right _ hx
    have := List.mem_range.mp (List.mem_filter.mp m).1
    omega
theorem ex_pop {ρ ρ1 : Rho} {i : Nat} {x : Nat} {u : List Nat} {P : D → Rho → Prop} (h : ρ[i]? = some (some (.ow (dn (x :: u))))) (p : Put ρ i (some (.ow (dn u))) ρ1) (q : P (.int (x : Nat)) ρ1) :
    ∃ (j : Int) (xs : List D) (n : Nat) (d : D) (ρ1 : Rho), ow? ρ i = some xs ∧ Vl.fz (.int 0) = .fz (.int j) ∧ ixN xs.length j = some n ∧ xs[n]? = some d ∧ ρ.set i (some (.ow (xs.eraseIdx n))) = ρ1 ∧ P d ρ1 :=
  ⟨0, dn (x :: u), 0, .int (x : Nat), ρ1, by unfold ow?; rw [h], rfl, ixN_nat (n := (dn (x :: u)).length) (i := 0) (by rw [dn_length]; simp), rfl, p.h, q⟩
set_option hygiene false in
local macro_rules | `(tactic| fail "p_one") => `(tactic| (
    cases u with
    | nil => exfalso; first | contradiction | ((have h8 : v = [] := (by assumption)); subst h8; (have h9 := hL.len); simp at h9; omega)
    | cons y u =>
      refine we_pop (n := 0) (xs := []) rfl ?_
      refine we_int ?_
      refine ex_pop rfl (by fail "v_put") ?_
      exact ⟨s5, u, v, l ++ [y], _, rfl, g5, dn_snoc l y, by rw [List.length_append, List.length_append, hl1]; rfl, rfl, hL.one⟩))
set_option hygiene false in
local macro_rules | `(tactic| fail "p_two") => `(tactic| (
    cases v with
    | nil => exfalso; first | contradiction | (have := hL.len; simp at this; omega)
    | cons y v =>
      refine we_pop (n := 0) (xs := []) rfl ?_
      refine we_int ?_
      refine ex_pop rfl (by fail "v_put") ?_
      exact ⟨s5, u, v, l ++ [y], _, rfl, g5, dn_snoc l y, by rw [List.length_append, List.length_append, hl1]; rfl, rfl, hL.two⟩))
local macro_rules | `(tactic| fail "v_call") => `(tactic| first | (apply op2_; fail "v_gt"; fail "v_gt"; with_reducible exact ix_dnL (by fail "v_om")))
/-- _law_drawn_plain -/
theorem sp18 {k n : Nat} (hn : n ≤ 1000) {s : Src} (g : s.Good) {Q : Vl → So → Prop} {R : Exc → So → Prop} (q : ∀ (l : List Nat) (s' : Src), s'.Good → Ord l → l.length = n → Pl l → Q (.fz (.tup (dn l))) (some s')) : WC tab fuel (k + 3) (.f 18) [.src, .int (n : Nat)] (some s) Q R := by
  refine wc_fd (fd := ⟨2, 6, b18⟩) rfl rfl ?_
  show WSS _ b18 [some (.fz .src), some (.fz (.int (n : Nat))), none, none, none, none] (some s) _
  unfold b18
  repeat' fail "v1"
  refine we_comp (fun ρ1 S1 done acc ρ2 S2 => ρ1 = [some (.fz .src), some (.fz (.int (n : Nat))), none, none, none, none] ∧ ∃ (s3 : Src) (bs : List Nat), S2 = some s3 ∧ s3.Good ∧ wipeR ρ2 [5] = wipeR ρ1 [5] ∧ acc = dn bs ∧ bs.length = done.length ∧ ∀ b ∈ bs, b < 2) ?_
  repeat' fail "v1"
  refine ⟨by rw [dn_length, List.length_range]; simp only [lim]; omega, ⟨rfl, s, [], rfl, g, rfl, rfl, rfl, fun x hx => by cases hx⟩, ?_, ?_⟩
  · rintro done d rest acc ρ2 S2 e ⟨_, s3, bs, rfl, g3, hw, rfl, hl, hb⟩
    rw [hw]
    refine wt_ (by rfl) ?_
    repeat' fail "v1"
    refine sp10 (by decide) g3 fun m s4 g4 hm => ?_
    refine ⟨rfl, s4, bs ++ [m], rfl, g4, rfl, dn_snoc bs m, by rw [List.length_append, List.length_append, hl]; rfl, fun y hy => ?_⟩
    rcases List.mem_append.mp hy with hy | hy
    · exact hb y hy
    · rw [List.mem_singleton.mp hy]; omega
  rintro acc ρ' S' ⟨_, s3, bs, rfl, g3, hw, rfl, hbl, hb⟩
  rw [back_same hw]
  rw [dn_length, List.length_range] at hbl
  repeat' fail "v1"
  refine we_compMF (List.range n) (fun i => D.int (i : Nat)) (fun i => if bs.getD i 0 = 0 then some (D.int ((i : Nat) : Int)) else none) ?_
  repeat' fail "v1"
  refine ⟨it_rng1 (by omega), by rw [List.length_range]; simp only [lim]; omega, fun i hi => ?_, ?_⟩
  · have hi := List.mem_range.mp hi
    refine wt_ (by rfl) ?_
    repeat' fail "v1"
    · rename_i hq
      rw [Int.toNat_natCast] at hq
      exact ⟨by rw [if_pos (by omega)]; rfl, rfl, rfl⟩
    · rename_i hq
      rw [Int.toNat_natCast] at hq
      exact ⟨by rw [if_neg (by omega)], rfl, rfl⟩
  repeat' fail "v1"
  refine we_compMF (List.range n) (fun i => D.int (i : Nat)) (fun i => if bs.getD i 0 = 1 then some (D.int ((i : Nat) : Int)) else none) ?_
  repeat' fail "v1"
  refine ⟨it_rng1 (by omega), by rw [List.length_range]; simp only [lim]; omega, fun i hi => ?_, ?_⟩
  · have hi := List.mem_range.mp hi
    refine wt_ (by rfl) ?_
    repeat' fail "v1"
    · rename_i hq
      rw [Int.toNat_natCast] at hq
      exact ⟨by rw [if_pos (by omega)]; rfl, rfl, rfl⟩
    · rename_i hq
      rw [Int.toNat_natCast] at hq
      exact ⟨by rw [if_neg (by omega)], rfl, rfl⟩
  rw [fm_filter (P := fun i => bs.getD i 0 = 0), fm_filter (P := fun i => bs.getD i 0 = 1)]
  let χ : Nat → Bool := fun i => decide (bs.getD i 0 = 0)
  have e1 : ((List.range n).filter fun b => decide (bs.getD b 0 = 0)).map (fun i => D.int ((i : Nat) : Int)) = dn ((List.range n).filter χ) := rfl
  have e2 : ((List.range n).filter fun b => decide (bs.getD b 0 = 1)).map (fun i => D.int ((i : Nat) : Int)) = dn ((List.range n).filter fun x => !χ x) := by
    unfold dn
    congr 1
    refine List.filter_congr fun x hx => ?_
    have hx := List.mem_range.mp hx
    have h2 : bs.getD x 0 < 2 := by
      rw [List.getD_eq_getElem?_getD, List.getElem?_eq_getElem (by omega)]
      exact hb _ (List.getElem_mem _)
    show decide (bs.getD x 0 = 1) = !decide (bs.getD x 0 = 0)
    rcases Nat.lt_or_ge (bs.getD x 0) 1 with z | z
    · rw [decide_eq_false (by omega), decide_eq_true (by omega)]; rfl
    · rw [decide_eq_true (by omega), decide_eq_false (by omega)]; rfl
  rw [e1, e2]
  have hL0 : Laid n χ [] ((List.range n).filter χ) ((List.range n).filter fun x => !χ x) := ⟨rfl, rfl⟩
  generalize (List.range n).filter χ = u0 at hL0 ⊢
  generalize ((List.range n).filter fun x => !χ x) = v0 at hL0 ⊢
  repeat' fail "v1"
  refine we_comp (fun ρ1 S1 done acc ρ2 S2 => ∃ (s3 : Src) (u v l : List Nat) (x5 : Sl), S2 = some s3 ∧ s3.Good ∧ acc = dn l ∧ l.length = done.length ∧ ρ2 = [some (.fz .src), some (.fz (.int (n : Nat))), some (.ow (dn bs)), some (.ow (dn u)), some (.ow (dn v)), x5] ∧ Laid n χ l u v) ?_
  repeat' fail "v1"
  refine ⟨by rw [dn_length, List.length_range]; simp only [lim]; omega, ⟨s3, u0, v0, [], _, rfl, g3, rfl, rfl, rfl, hL0⟩, ?_, ?_⟩
  · rintro done d rest acc ρ2 S2 e ⟨s4, u, v, l, x5, rfl, g4, rfl, hl1, rfl, hL⟩
    have e0 : dn (List.range n) = done ++ d :: rest := e
    obtain ⟨rfl, hj⟩ := rng_at e0
    obtain ⟨su, sv⟩ := hL.small hn
    have hlen := hL.len
    refine wt_ (by rfl) ?_
    show WB _ _ [some (.fz .src), some (.fz (.int (n : Nat))), some (.ow (dn bs)), some (.ow (dn u)), some (.ow (dn v)), some (.fz (.int (done.length : Nat)))] _ _ _
    repeat' fail "v1"
    refine sp10 (by decide) g4 fun m s5 g5 hm => ?_
    repeat' fail "v1"
    · apply op3_; fail "v_gt"; fail "v_gt"; (focus exact ne_nil su)
      repeat' fail "v1"
      · apply op3_; fail "v_gt"; fail "v_gt"; (focus exact eq_nil sv)
        repeat' fail "v1"
        · fail "p_one"
        · fail "p_two"
      · fail "p_one"
    · apply op3_; fail "v_gt"; fail "v_gt"; (focus exact eq_nil sv)
      repeat' fail "v1"
      · fail "p_one"
      · fail "p_two"
  · rintro acc ρ' S' ⟨s4, u, v, l, x5, rfl, g4, rfl, hl1, rfl, hL⟩
    rw [dn_length, List.length_range] at hl1
    have hlen := hL.len
    obtain rfl : u = [] := List.eq_nil_of_length_eq_zero (by omega)
    obtain rfl : v = [] := List.eq_nil_of_length_eq_zero (by omega)
    have k1 := hL.h1
    have k2 := hL.h2
    rw [List.append_nil] at k1 k2
    obtain ⟨o, ol⟩ := ord_of hn (laid_perm χ k1 k2)
    repeat' fail "v1"
    exact q l s4 g4 o ol (laid_plain χ k1 k2)
end K
set_option Elab.async false
set_option linter.all false
set_option maxRecDepth 100000
set_option maxHeartbeats 0
open PySem VI L2
namespace K
theorem dnD_inj : ∀ {a b : List Nat}, dn a = dn b → a = b
  | [], [], _ => rfl
  | [], _ :: _, h => by cases h
  | _ :: _, [], h => by cases h
  | x :: a, y :: b, h => by
    obtain ⟨h1, h2⟩ := List.cons.inj (show D.int ((x : Nat) : Int) :: dn a = D.int ((y : Nat) : Int) :: dn b from h)
    have h3 : ((x : Nat) : Int) = ((y : Nat) : Int) := D.int.inj h1
    rw [dnD_inj h2, show x = y by omega]
theorem ne_dnL {a b : List Nat} (ha : ∀ i ∈ a, i < 10 ^ 12) (hb : ∀ i ∈ b, i < 10 ^ 12) : cmpD .ne (.lst (dn a)) (.lst (dn b)) = some (!decide (a = b)) := by
  rw [cmp_ne_sm 1 (dn_sm1 ha) (dn_sm1 hb) (dn_nb1 _) (dn_nb1 _) (by decide)]
  refine congrArg some (congrArg (!·) ?_)
  rw [Bool.eq_iff_iff]
  simp only [decide_eq_true_eq]
  exact ⟨fun h => dnD_inj (D.lst.inj h), fun h => by rw [h]⟩
theorem eq_rl {T : List (List Nat)} (h : ∀ t ∈ T, ∀ x ∈ t, x < 10 ^ 12) : cmpD .eq (.lst (rl T)) (.lst []) = some (decide (T = [])) := by
  have h1 : D.sms 1 (rl T) = true := D.sms_all.mpr fun x hx => by
    obtain ⟨t, ht, rfl⟩ := List.mem_map.mp hx
    exact dn_sms (h t ht) 0
  have h2 : D.nbss (rl T) = true := by
    clear h1
    induction T with
    | nil => rfl
    | cons t T ih =>
      show D.nbss (D.lst (dn t) :: rl T) = true
      rw [D.nbss, ih fun t ht => h t (List.mem_cons_of_mem _ ht), D.nbs, dn_nbss]
      rfl
  rw [cmp_eq_sm 2 (by rw [D.sm]; exact h1) rfl (by rw [D.nbs]; exact h2) rfl (by decide)]
  refine congrArg some ?_
  rw [Bool.eq_iff_iff]
  cases T <;> simp [rl]
theorem repr_bl (b : Bool) : b1D .repr (.bl b) = some (.fz (.str (D.bl b).py.shown)) := repr_sm (n := 0) rfl (by decide) (by cases b <;> decide)
theorem repr_FT {l : List Nat} {d : D} (h : FTv l d) (hl : l.length ≤ 40) : b1D .repr d = some (.fz (.str d.py.shown)) := by
  rcases h with ⟨rfl, _⟩ | ⟨a, b, c, rfl, f⟩
  · exact repr_sm (n := 0) rfl (by decide) (by decide)
  · obtain ⟨h1, h2, h3⟩ := f.lt
    have hs : ∀ i ∈ [a, b, c], i < 10 ^ 12 := fun i hi => by
      simp at hi
      rcases hi with rfl | rfl | rfl <;> omega
    refine repr_sm (n := 1) (by rw [D.sm]; exact dn_sms hs 0) (by decide) ?_
    show 15 * D.ct (D.tup [.int (a : Nat), .int (b : Nat), .int (c : Nat)]) + 13 ≤ lim
    simp only [D.ct, D.cts, lim]
    omega
theorem sp7e {k : Nat} {l : List Nat} {d : D} (h : FTv l d) (hl : l.length ≤ 40) {S : So} {Q : Vl → So → Prop} {R : Exc → So → Prop} (q : Q (.fz d) S) : WC tab fuel (k + 1) (.f 7) [.tup (dn l)] S Q R :=
  sp7 hl fun d' h' => by rw [h'.eq h]; exact q
theorem sp8e {k : Nat} {l : List Nat} {d : D} (h : FTv l d) (hl : l.length ≤ 40) {S : So} {Q : Vl → So → Prop} {R : Exc → So → Prop} (q : Q (.fz (.bl d.isNon)) S) : WC tab fuel (k + 2) (.f 8) [.tup (dn l)] S Q R :=
  sp8 hl fun b hb => by
    have e : b = d.isNon := by rw [Bool.eq_iff_iff, hb, h.non]
    rw [e]; exact q
theorem sp8p {k : Nat} {l : List Nat} (h : Pl l) (hl : l.length ≤ 40) {S : So} {Q : Vl → So → Prop} {R : Exc → So → Prop} (q : Q (.fz (.bl true)) S) : WC tab fuel (k + 2) (.f 8) [.tup (dn l)] S Q R :=
  sp8 hl fun b hb => by
    have e : b = true := hb.mpr h
    rw [e]; exact q
def ordE : E := .ife (.cmp .eq (.call 10 [(.var 1), (.int 3)]) (.int 0)) (.call 18 [(.var 1), (.var 5)]) (.call 12 [(.var 1), (.var 5)])
theorem we_order {k n : Nat} (hn : n ≤ 1000) {x0 x2 x3 x4 : Sl} {r : Rho} {s : Src} (g : s.Good) {Q : PQ Vl} {R : PQ Exc} (q : ∀ (l : List Nat) (s' : Src), s'.Good → Ord l → l.length = n → Q (.fz (.tup (dn l))) (x0 :: some (.fz .src) :: x2 :: x3 :: x4 :: some (.fz (.int (n : Nat))) :: r) (some s')) :
    WE (CC tab fuel (k + 3)) ordE (x0 :: some (.fz .src) :: x2 :: x3 :: x4 :: some (.fz (.int (n : Nat))) :: r) (some s) Q R := by
  unfold ordE
  repeat' fail "v1"
  refine sp10 (by decide) g fun m s2 g2 hm => ?_
  repeat' fail "v1"
  · exact sp18 hn g2 fun l s3 g3 o hl _ => q l s3 g3 o hl
  · exact sp12 hn g2 fun l s3 g3 o hl => q l s3 g3 o hl
theorem sizes {a b c j : Nat} (ha : a = 0 ∨ (a : Int) < 4) (hb : b = 0 ∨ (b : Int) < 2) (hc : c = 0 ∨ (c : Int) < 25) (hj : j < 5) :
    ∃ n : Nat, n ≤ 40 ∧ [D.int (a : Nat), .int 4, .int (4 + (b : Nat)), .int (6 + (c : Nat)), .int 5][j]? = some (.int (n : Nat)) := by
  match j, hj with
  | 0, _ => exact ⟨a, by omega, rfl⟩
  | 1, _ => exact ⟨4, by omega, rfl⟩
  | 2, _ => exact ⟨4 + b, by omega, rfl⟩
  | 3, _ => exact ⟨6 + c, by omega, rfl⟩
  | 4, _ => exact ⟨5, by omega, rfl⟩
theorem ft1 : FTv [2, 1, 0] (.tup (dn [0, 1, 2])) := .inr ⟨0, 1, 2, rfl, fun a h => absurd h (Nat.not_lt_zero _), by decide, by decide, by decide, by decide⟩
theorem ft2 : FTv [3, 0, 2, 1] (.tup (dn [0, 2, 3])) := .inr ⟨0, 2, 3, rfl, fun a h => absurd h (Nat.not_lt_zero _), by decide, by decide, by decide, by decide⟩
theorem pl0 : Pl [] := fun a b c _ _ h => absurd h (Nat.not_lt_zero _)
theorem ne_bl (b : Bool) : cmpD .ne (.bl b) (.bl b) = some false := by cases b <;> decide +kernel
theorem ne_str (x : Str) : cmpD .ne (.str x) (.str x) = some (!decide (x = x)) := cmp_ne_str
theorem srN_small {l r : List Nat} (h : LR l r) (hl : l.length ≤ 1000) : ∀ i ∈ srN r, i < 10 ^ 12 := fun i hi => h.small hl i ((srN_perm r).mem_iff.mp hi)
theorem fmf {α : Type} {P : α → Prop} [DecidablePred P] {f : α → D} : ∀ l : List α, l.filterMap (fun b => if P b then some (f b) else none) = (l.filter fun b => decide (P b)).map f
  | [] => rfl
  | b :: l => by
    rw [List.filterMap_cons, List.filter_cons]
    by_cases h : P b
    · rw [if_pos h, if_pos (decide_eq_true h), fmf l]; rfl
    · rw [if_neg h, if_neg (by rw [decide_eq_false h]; exact Bool.false_ne_true), fmf l]
theorem fm_none {α : Type} : ∀ l : List α, l.filterMap (fun _ => (none : Option D)) = []
  | [] => rfl
  | b :: l => by rw [List.filterMap_cons]; exact fm_none l
local macro_rules | `(tactic| fail "v_call") => `(tactic| first | refine wc_source rfl (by omega) (fun s g => ?_) | (refine we_order (k := 36) (by omega) (by assumption) fun l s' g' o hl => ?_) | refine sp10 (by decide) (by assumption) (fun m s' g' hm => ?_) | (refine sp17 (by omega) fun d hd => ?_) | refine sp7e (by assumption) (by omega) ?_ | refine sp8e (by assumption) (by omega) ?_ | (apply op1_; fail "v_gt"; with_reducible first | exact repr_bl _ | exact repr_FT (by assumption) (by omega)) | refine sp13 (by omega) ?_ | refine sp15 (by omega) ?_)
set_option hygiene false in
local macro_rules | `(tactic| fail "w_last") => `(tactic| (
    refine ⟨fun hz => ?_, fun hz => ?_⟩
    · have hp : Pl l := hd.non.mp hz
      repeat' fail "v1"
      refine we_compMF (steps l) (fun i => D.int (i : Nat)) (fun _ => none) ?_
      repeat' fail "v1"
      refine ⟨rfl, by have := steps_len (l := l); simp only [lim]; omega, fun i hi => ?_, ?_⟩
      · obtain ⟨⟨i1, i2⟩, i3⟩ := mem_steps.mp hi
        refine wt_ (by rfl) ?_
        repeat' fail "v1"
        refine sp14 (by omega) i1 i2 ?_
        repeat' fail "v1"
        refine sp8p (hp.step hi) (by rw [stepped_len i1 i2]; omega) ?_
        repeat' fail "v1"
        exact ⟨rfl, rfl, rfl⟩
      · rw [fm_none]
        repeat' fail "v1"
        apply op3_; fail "v_gt"; fail "v_gt"; (focus exact ne_nil0)
        repeat' fail "v1"
        exact ⟨_, _, _, _, _, _, _, _, _, _, rfl, rfl, by assumption⟩
    · repeat' fail "v1"
      exact ⟨_, _, _, _, _, _, _, _, _, _, rfl, rfl, by assumption⟩))
theorem law_true : ∀ ns : List Int, ns.length ≤ 63 → ∃ S', callD tab fuel 40 (.f 19) [.scr ns] none = .ok (.fz (.bl true)) S' := by
  intro ns hns
  suffices h : WC tab fuel (39 + 1) (.f 19) [.scr ns] none (fun v _ => v = .fz (.bl true)) nX by
    obtain ⟨v, S', e, rfl⟩ := h.ok
    exact ⟨S', e⟩
  refine wc_fd (fd := ⟨1, 11, b19⟩) rfl rfl ?_
  show WSS _ b19 [some (.fz (.scr ns)), none, none, none, none, none, none, none, none, none, none] none _
  unfold b19
  repeat' fail "v1"
  rename_i s0 g0
  refine wf_ind (fun _ ρ S => ∃ s' y2 y3 y4 y5 y6 y7 y8 y9 y10, ρ = [some (.fz (.scr ns)), some (.fz .src), y2, y3, y4, y5, y6, y7, y8, y9, y10] ∧ S = some s' ∧ s'.Good) _ ⟨s0, none, none, none, none, none, none, none, none, none, rfl, rfl, g0⟩ ?_ ?_
  · rintro done d0 rest ρ S e ⟨s1, y2, y3, y4, y5, y6, y7, y8, y9, y10, rfl, rfl, g1⟩
    have e0 : dn (List.range 5) = done ++ d0 :: rest := e
    obtain ⟨rfl, hj⟩ := rng_at e0
    refine ⟨_, rfl, ?_⟩
    repeat' fail "v1"
    rename_i a s2 g2 ha b s3 g3 hb c s4 g4 hc
    obtain ⟨n, hn, hnx⟩ := sizes ha hb hc hj
    apply op2_; fail "v_gt"; fail "v_gt"; (focus exact ixD_lst hnx)
    repeat' fail "v1"
    · rename_i l s5 g5 o hl d hd hn6 hi9
      obtain ⟨r, rs, hr⟩ : ∃ r rs, lr l = r :: rs := by
        cases e : lr l with
        | nil => have h1 := lr_length l; rw [e] at h1; have := ct_pos (l := l); simp at h1; omega
        | cons r rs => exact ⟨r, rs, rfl⟩
      have hM := ct_1M (l := l) (by omega)
      have sm1 : ∀ x ∈ (lr l).map srN, ∀ i ∈ x, i < 10 ^ 12 := fun x hx => by
        obtain ⟨y, hy, rfl⟩ := List.mem_map.mp hx
        exact srN_small (lr_mem.mp hy) (by omega)
      have hr0 : srN r ∈ (lr l).map srN := List.mem_map.mpr ⟨r, by rw [hr]; exact List.mem_cons_self, rfl⟩
      refine we_compM (lr l) (fun r => D.lst (dn r)) (fun r => D.lst (dn (srN r))) ?_
      repeat' fail "v1"
      refine sp16 10 (k := 25) (by omega) (cnt_10 (by omega)) fun v hv => ?_
      rw [hv]
      refine wl_nil ⟨rfl, by rw [lr_length]; simp only [lim]; omega, fun x hx => ?_, ?_⟩
      · refine wt_ (by rfl) ?_
        repeat' fail "v1"
        refine op1_ (gt_sl (at_fz rfl)) (b1_srN x) ?_
        exact ⟨rfl, rfl, rfl⟩
      have e1 : ((lr l).map fun r => D.lst (dn (srN r))) = rl ((lr l).map srN) := by
        unfold rl
        rw [List.map_map]
        rfl
      rw [e1]
      repeat' fail "v1"
      refine we_compMF ((lr l).map srN) (fun r => D.lst (dn r)) (fun x => if ¬ x = srN r then some (D.lst (dn x)) else none) ?_
      repeat' fail "v1"
      refine ⟨rfl, by rw [List.length_map, lr_length]; simp only [lim]; omega, fun x hx => ?_, ?_⟩
      · refine wt_ (by rfl) ?_
        repeat' fail "v1"
        refine op2_ (gt_sl (at_fz rfl)) gt_fz (ixD_lst (i := 0) (rl_at (r := srN r) (by rw [hr]; rfl))) ?_
        repeat' fail "v1"
        apply op3_; fail "v_gt"; fail "v_gt"; (focus exact ne_dnL (sm1 x hx) (sm1 _ hr0))
        repeat' fail "v1"
        · rename_i hq
          exact ⟨by rw [if_neg (fun z => z hq)], rfl, rfl⟩
        · rename_i hq
          exact ⟨by rw [if_pos hq]; rfl, rfl, rfl⟩
      rw [fmf (P := fun x => ¬ x = srN r)]
      have e2 : (((lr l).map srN).filter fun b => decide ¬b = srN r).map (fun r => D.lst (dn r)) = rl (((lr l).map srN).filter fun x => !decide (x = srN r)) := by
        unfold rl
        congr 1
        refine List.filter_congr fun x _ => ?_
        rw [decide_not]
      rw [e2]
      repeat' fail "v1"
      apply op3_; fail "v_gt"; fail "v_gt"; (focus exact eq_rl fun t ht => sm1 t (List.mem_filter.mp ht).1)
      repeat' fail "v1"
      have e3 : decide (((lr l).map srN).filter (fun x => !decide (x = srN r)) = []) = d.isNon := by
        rw [Bool.eq_iff_iff, decide_eq_true_iff, all_same hr, hd.non]
      rw [e3]
      apply op3_; fail "v_gt"; fail "v_gt"; (focus exact ne_bl _)
      repeat' fail "v1"
      fail "w_last"
    · rename_i l s5 g5 o hl d hd hn6 hi9
      fail "w_last"
    · rename_i l s5 g5 o hl d hd hn6
      fail "w_last"
  · rintro ρ S ⟨s1, y2, y3, y4, y5, y6, y7, y8, y9, y10, rfl, rfl, g1⟩
    repeat' fail "v1"
    refine sp18 (k := 36) (n := 6) (by decide) g1 fun l s2 g2 o hl hp => ?_
    have cp := ct_pos (l := l)
    obtain ⟨r1, hr1, hL1⟩ := lr_some (l := l) (n := ct l - 1) (by omega)
    obtain ⟨r0, hr0, hL0⟩ := lr_some (l := l) (n := 0) cp
    have es : srN r1 = srN r0 := srN_eq.mpr (hp.perm _ (Nat.le_refl _) hL1 hL0)
    repeat' fail "v1"
    refine sp5 (k := 19) o (by omega) g2 fun s3 g3 => ?_
    repeat' fail "v1"
    refine sp8p hp (by omega) ?_
    repeat' fail "v1"
    rw [show ((ct l : Nat) : Int) - 1 = ((ct l - 1 : Nat) : Int) by omega]
    refine sp6 (k := 19) o (by omega) hr1 g3 fun s4 g4 => ?_
    repeat' fail "v1"
    refine op1_ gt_ow (b1_srN _) ?_
    repeat' fail "v1"
    refine sp6 (k := 19) (n := 0) o (by omega) hr0 g4 fun s5 g5 => ?_
    repeat' fail "v1"
    refine op1_ gt_ow (b1_srN _) ?_
    rw [es]
    repeat' fail "v1"
    apply op3_; fail "v_gt"; fail "v_gt"; (focus exact ne_dnL (srN_small hL0 (by omega)) (srN_small hL0 (by omega)))
    repeat' fail "v1"
    refine sp7e (l := [2, 1, 0]) ft1 (by decide) ?_
    repeat' fail "v1"
    apply op3_; fail "v_gt"; fail "v_gt"; (focus exact (show cmpD .eq (.tup (dn [0, 1, 2])) (.tup [.int 0, .int 1, .int 2]) = some true from by decide +kernel))
    repeat' fail "v1"
    refine sp7e (l := [3, 0, 2, 1]) ft2 (by decide) ?_
    repeat' fail "v1"
    apply op3_; fail "v_gt"; fail "v_gt"; (focus exact (show cmpD .eq (.tup (dn [0, 2, 3])) (.tup [.int 0, .int 2, .int 3]) = some true from by decide +kernel))
    repeat' fail "v1"
    refine sp8p (l := []) pl0 (by decide) ?_
    repeat' fail "v1"
    rfl
end K
set_option maxHeartbeats 0
namespace K
open PySem PySem.Spec PyProof.Rows L2 VI
def gg (w : World) (F : PySem.W.Frag) : Gl0 := ⟨F, fun c => He.ga F (clsNm c), R.prog, w⟩
/-- what the head tells -/
theorem known {w : World} {K : PySem.W.Frag} {h : Heap} {mg : Str → Option Value} {base : Heap} (X : K.In h) (G : h.Ns mainGlobals mg) (cE : SaysE R.prog fa fn xs clsNm xms K) : Knows R.prog w K mg base (gg w K) tab tbs := by
  have c := cE.d
  have ex : ExcsOk R.prog K mg (gg w K) tbs := excs_ok (T := tbs) X G cE rfl (fun d hd => by (try (simp only [xs, List.mem_cons, List.not_mem_nil, or_false] at hd)); (rcases hd with rfl) <;> rfl) (fun d hd => by (try (simp only [xs, List.mem_cons, List.not_mem_nil, or_false] at hd)); rcases hd with rfl; exact oke100) (fun q hq => by cases hq)
  have free : ∀ x, He.Fa.free x ∈ fa → mg x = none := fun x z => He.free_ok X G (c.facts z)
  have df : ∀ (d : He.DefD) (n np : Nat), d ∈ fn → d.dvs K = [] → d.kws K = [] → He.Fa.glo d.name ∈ fa → He.fAd K d.at_ = He.ga K d.name → DefOk tab tbs d.name d.qual d.params d.body d.scope (.f n) np → Known R.prog w K mg base (gg w K) tab tbs d.name n np := fun d n np hd e1 e2 hg e3 ok => by
    obtain ⟨fd, F⟩ := c.defs hd
    rw [e1, e2] at F
    have m := He.glo_ok X G (c.facts hg)
    rw [← e3] at m
    exact ⟨_, fd, m, F.kp, .inl ⟨_, _, _, _, F, ok⟩⟩
  refine ⟨ex, fun x hx => free x ?_, fun x n np h => ?_, fun x n np h => ?_, fun n m e h => ?_⟩
  · have all : bt.all (fun x => fa.any fun f => match f with | .free y => y == x | _ => false) = true := by decide +kernel
    have z := List.all_eq_true.mp all x hx
    obtain ⟨f, hf, e⟩ := List.any_eq_true.mp z
    split at e
    · rename_i y
      have e := eq_of_beq e
      subst e
      exact hf
    · cases e
  · have h : fnOf? x gl = some (n, np) := h
    unfold gl at h
    unfold fnOf? at h
    split at h
    · rename_i e; obtain rfl := eq_of_beq e; cases h; exact df (fn[0]'(by decide)) _ _ (List.getElem_mem _) rfl rfl (List.getElem_mem (l := fa) (n := 0) (by decide)) rfl ok0
    unfold fnOf? at h
    split at h
    · rename_i e; obtain rfl := eq_of_beq e; cases h; exact df (fn[1]'(by decide)) _ _ (List.getElem_mem _) rfl rfl (List.getElem_mem (l := fa) (n := 1) (by decide)) rfl ok1
    unfold fnOf? at h
    split at h
    · rename_i e; obtain rfl := eq_of_beq e; cases h; exact df (fn[2]'(by decide)) _ _ (List.getElem_mem _) rfl rfl (List.getElem_mem (l := fa) (n := 2) (by decide)) rfl ok2
    unfold fnOf? at h
    split at h
    · rename_i e; obtain rfl := eq_of_beq e; cases h; exact df (fn[3]'(by decide)) _ _ (List.getElem_mem _) rfl rfl (List.getElem_mem (l := fa) (n := 3) (by decide)) rfl ok3
    unfold fnOf? at h
    split at h
    · rename_i e; obtain rfl := eq_of_beq e; cases h; exact df (fn[4]'(by decide)) _ _ (List.getElem_mem _) rfl rfl (List.getElem_mem (l := fa) (n := 4) (by decide)) rfl ok4
    unfold fnOf? at h
    split at h
    · rename_i e; obtain rfl := eq_of_beq e; cases h; exact df (fn[5]'(by decide)) _ _ (List.getElem_mem _) rfl rfl (List.getElem_mem (l := fa) (n := 5) (by decide)) rfl ok5
    unfold fnOf? at h
    split at h
    · rename_i e; obtain rfl := eq_of_beq e; cases h; exact df (fn[6]'(by decide)) _ _ (List.getElem_mem _) rfl rfl (List.getElem_mem (l := fa) (n := 6) (by decide)) rfl ok6
    unfold fnOf? at h
    split at h
    · rename_i e; obtain rfl := eq_of_beq e; cases h; exact df (fn[7]'(by decide)) _ _ (List.getElem_mem _) rfl rfl (List.getElem_mem (l := fa) (n := 7) (by decide)) rfl ok7
    unfold fnOf? at h
    split at h
    · rename_i e; obtain rfl := eq_of_beq e; cases h; exact df (fn[8]'(by decide)) _ _ (List.getElem_mem _) rfl rfl (List.getElem_mem (l := fa) (n := 8) (by decide)) rfl ok8
    unfold fnOf? at h
    split at h
    · rename_i e; obtain rfl := eq_of_beq e; cases h; exact df (fn[9]'(by decide)) _ _ (List.getElem_mem _) rfl rfl (List.getElem_mem (l := fa) (n := 9) (by decide)) rfl ok9
    unfold fnOf? at h
    split at h
    · rename_i e; obtain rfl := eq_of_beq e; cases h; exact df (fn[10]'(by decide)) _ _ (List.getElem_mem _) rfl rfl (List.getElem_mem (l := fa) (n := 10) (by decide)) rfl ok10
    unfold fnOf? at h
    split at h
    · rename_i e; obtain rfl := eq_of_beq e; cases h; exact df (fn[11]'(by decide)) _ _ (List.getElem_mem _) rfl rfl (List.getElem_mem (l := fa) (n := 11) (by decide)) rfl ok11
    unfold fnOf? at h
    split at h
    · rename_i e; obtain rfl := eq_of_beq e; cases h; exact df (fn[12]'(by decide)) _ _ (List.getElem_mem _) rfl rfl (List.getElem_mem (l := fa) (n := 12) (by decide)) rfl ok12
    unfold fnOf? at h
    split at h
    · rename_i e; obtain rfl := eq_of_beq e; cases h; exact df (fn[13]'(by decide)) _ _ (List.getElem_mem _) rfl rfl (List.getElem_mem (l := fa) (n := 13) (by decide)) rfl ok13
    unfold fnOf? at h
    split at h
    · rename_i e; obtain rfl := eq_of_beq e; cases h; exact df (fn[14]'(by decide)) _ _ (List.getElem_mem _) rfl rfl (List.getElem_mem (l := fa) (n := 14) (by decide)) rfl ok14
    unfold fnOf? at h
    split at h
    · rename_i e; obtain rfl := eq_of_beq e; cases h; exact df (fn[15]'(by decide)) _ _ (List.getElem_mem _) rfl rfl (List.getElem_mem (l := fa) (n := 15) (by decide)) rfl ok15
    unfold fnOf? at h
    split at h
    · rename_i e; obtain rfl := eq_of_beq e; cases h; exact df (fn[16]'(by decide)) _ _ (List.getElem_mem _) rfl rfl (List.getElem_mem (l := fa) (n := 16) (by decide)) rfl ok16
    unfold fnOf? at h
    split at h
    · rename_i e; obtain rfl := eq_of_beq e; cases h; exact df (fn[17]'(by decide)) _ _ (List.getElem_mem _) rfl rfl (List.getElem_mem (l := fa) (n := 17) (by decide)) rfl ok17
    unfold fnOf? at h
    split at h
    · rename_i e; obtain rfl := eq_of_beq e; cases h; exact df (fn[18]'(by decide)) _ _ (List.getElem_mem _) rfl rfl (List.getElem_mem (l := fa) (n := 18) (by decide)) rfl ok18
    unfold fnOf? at h
    split at h
    · rename_i e; obtain rfl := eq_of_beq e; cases h; exact df (fn[19]'(by decide)) _ _ (List.getElem_mem _) rfl rfl (List.getElem_mem (l := fa) (n := 19) (by decide)) rfl ok19
    unfold fnOf? at h
    cases h
  · have h : fnOf? x tbs.cl = some (n, np) := h
    unfold tbs at h
    dsimp only at h
    unfold fnOf? at h
    cases h
  · unfold tab at h
    split at h
    all_goals first | (cases h; done) | (rename_i heq; cases heq; done) | skip
/-- the law's def keeps its promise -/
theorem law_kept {w : World} {F : PySem.W.Frag} {h : Heap} {mg : Str → Option Value} {at_ : Addr} (X : F.In h) (G : h.Ns mainGlobals mg) (hfa : mg ("law" : Str) = some (.ref at_)) (c : SaysE R.prog fa fn xs clsNm xms F) (base : Heap) :
    ∃ fd ps, Binds F fd ps [] ∧ ps.length = 1 ∧ FnG R.prog w F mg base 40 at_ fd ps (spD (gg w F) (callD tab fuel 40 (.f 19)) 1) := by
  have k1 := known (w := w) (base := base) X G c
  obtain ⟨f, fd, ps, h1, _, h3, h4, h5⟩ := (all_fn (P := R.prog) (w := w) (base := base) (mg := mg) (Γ := tab) (T := tbs) (g := gg w F) (fuel := fuel) ⟨rfl, rfl, rfl⟩ k1 40).gl "law" 19 1 (by decide +kernel)
  obtain rfl : at_ = f := Value.ref.inj (Option.some.inj (hfa.symm.trans h1))
  exact ⟨fd, ps, h3, h4, h5⟩
end K
open PySem PySem.W PySem.Calls PyProof.Rows
theorem PySem.Challenge.cw_codenests_k48_whole_plain_orders_holds : PySem.Challenge.rw_codenests_k48_whole_plain_orders.Holds := by
  w_on; o_law
  refine HandSHeadRun.head_any (r := OpenLaw.row PySem.Challenge.rw_codenests_k48_whole_plain_orders) (q := view (OpenLaw.row PySem.Challenge.rw_codenests_k48_whole_plain_orders).prog [28]) (H := K.hk) (ob := K.ob) (M := 20000) (loose := [("NameMissing" : PySem.Str), ("NestError" : PySem.Str), ("NoLevel" : PySem.Str), ("TooGreat" : PySem.Str), ("__name__" : PySem.Str), ("_law_any_order" : PySem.Str), ("_law_drawn_plain" : PySem.Str), ("_law_inversions" : PySem.Str), ("_law_level_rows" : PySem.Str), ("_law_mixed" : PySem.Str), ("_law_pick" : PySem.Str), ("_law_source" : PySem.Str), ("_law_stepped" : PySem.Str), ("_law_steps" : PySem.Str), ("_law_triple" : PySem.Str), ("count_rows" : PySem.Str), ("counted" : PySem.Str), ("falling_places" : PySem.Str), ("is_level" : PySem.Str), ("is_number" : PySem.Str), ("is_plain" : PySem.Str), ("row_at" : PySem.Str), ("sorting_steps" : PySem.Str), ("stepped" : PySem.Str)]) (d := HandSHeadRun.topDef (OpenLaw.row PySem.Challenge.rw_codenests_k48_whole_plain_orders).prog 28) (kwd := []) K.ob_eq
    (by kernel_rfl) (fun s => by kernel_rfl) K.run (by kernel_rfl) (by kernel_rfl) (by kernel_rfl) (by rfl) (by first | assumption | decide +kernel) (by decide +kernel) ⟨rfl, rfl, rfl, rfl, rfl, by decide +kernel⟩ ?hw ?hc
  case hw => w_witness2
  case hc =>
    refine VI.walk_ofG (l := PySem.Challenge.rw_codenests_k48_whole_plain_orders) (n := 63) (k := 40) (r := VI.callD K.tab K.fuel 40 (.f 19)) rfl (by decide) (by kernel_rfl) ⟨rfl, by decide, by decide⟩ ?F K.law_true
    intro w mg fa h Y G hmg0
    obtain ⟨F, X, c⟩ := Y
    have hmg : mg ("law" : PySem.Str) = some (.ref fa) := by
      have e : (HandSHeadRun.topDef (OpenLaw.row PySem.Challenge.rw_codenests_k48_whole_plain_orders).prog 28).name = ("law" : PySem.Str) := by kernel_rfl
      rw [← e]
      exact hmg0
    exact ⟨F, K.gg w F, X, rfl, fun base _ _ => K.law_kept (w := w) X G hmg c base⟩
