import PyProof.Rows.All
import PyProof.EqLayable
import PyProof.P3Statements
import HandS.List
import Wide.All
import OpenK.AllK
import Wide.FinOn
import HandS.ForMost
import HandS.ForExc
import HandS.TupAny
import HandS.TupMul
import HandS.IsInst
import HandS.Flow
import HandS.Style
import HandS.Walk
import HandS.CallSlots
import HandS.HeadHook4
import HandS.Zip
import HandS.SetKeys
import HandS.Iter
import PyProof.Draws
import PyProof.DictMoreH
import PyProof.EnumMake
import KE.GoesMore
import HandS.TupLen
import PyProof.CollectWalk
import HandS.GenList
import HandS.RaiseMore
import HandS.Text
import HandS.SortInts
import HandS.WordsDict
import HandS.ExcIs
import HandS.TryOnly
import HandS.More
import HandS.NoneIn
import HandS.RevRange
import HandS.Conv
import HandS.ExcOwn
import PyProof.ExcBaseAll.ValueError
import HandS.HeadEnd
import HandS.EndBits
import HandS.Head0
import HandS.Head1
import HandS.Head2
import PySem.Challenge.RW_leatwork_k06_cut_trees
set_option Elab.async false
set_option linter.all false
set_option maxRecDepth 100000
set_option maxHeartbeats 0
/-! L3Core: values without addresses, a store of mutable objects, the syntax (slots resolved), the interpreter. -/
namespace L3
open PySem (PyData)

abbrev Sy := List Nat
/-- values: tuples are values; rol, rot: a list, a tuple that is only read (the script, a constant); ref n is the n-th mutable object -/
inductive PV where
  | non | bl (b : Bool) | int (i : Int) | str (x : Sy) | tup (xs : List PV) | rol (xs : List PV) | rot (xs : List PV) | ref (n : Nat)
  deriving Inhabited
/-- mutable objects; dic: its keys are tuples or not -/
inductive MO where
  | lst (xs : List PV) | dic (t : Bool) (kvs : List (PV × PV)) | ins (c : Nat) (fs : List (Sy × PV))
  /-- a dict that is being walked -/
  | fdc (kvs : List (PV × PV))
  deriving Inhabited
abbrev Store := List MO
abbrev Env := List (Option PV)
structure Exn where
  c : Nat
  fs : List (Sy × PV)

inductive R (α : Type) where
  | ok (a : α) (S : Store)
  | exc (x : Exn) (S : Store)
  | stuck
def R.bind {α β : Type} : R α → (α → Store → R β) → R β
  | .ok a S, f => f a S
  | .exc x S, _ => .exc x S
  | .stuck, _ => .stuck

/-! ### syntax -/
inductive BOp where
  | add | sub | mul | fdiv | mod | pow
  deriving DecidableEq
inductive COp where
  | eq | ne | lt | le | gt | ge | is | isn | inn | nin
  deriving DecidableEq
inductive Ty where
  | int | bool | str | tuple | list
  deriving DecidableEq
inductive BF where
  | len | abs | int | list | tuple | all | any | min | max | str | sorted
  deriving DecidableEq

mutual
inductive CE where
  | var (i : Nat) | con (v : PV) | glo (k : Nat)
  | tup (es : CEs) | lst (es : CEs) | dnew (t : Bool) | ddis (k v : CE) | ddist (k v : CE) | lrng (a b : CE) | kdi (k : Nat) (a : CE) | kdin (k : Nat) (a : CE) | lens (a : CE) | dget1 (o a : CE) | dget2 (o a b : CE) | dset (o a b : CE) | lzip (a b : CE)
  | bin (op : BOp) (a b : CE) | neg (a : CE) | nt (a : CE) | and (a b : CE) | or (a b : CE) | ife (c a b : CE)
  | cmp (op : COp) (a b : CE) | chn (o1 o2 : COp) (a b c : CE)
  | idx (a b : CE) | slc (a : CE) (lo hi : CO) | rev (a : CE)
  | fld (a : CE) (f : Sy)
  | cal (f : Nat) (es : CEs) | mth (o : CE) (m : Sy) (es : CEs) | mk (c : Nat) (es : CEs)
  | bf (b : BF) (es : CEs) | isi (a : CE) (t : Ty)
  | lc (vs : List Nat) (t : CT) (it : CI) (cond : CE) (elt : CE)
inductive CEs where
  | nil | cons (e : CE) (es : CEs)
inductive CO where
  | no | ex (e : CE)
inductive CT where
  | name (i : Nat) | tup (ts : CTs) | sub (o i : CE) | fld (o : CE) (f : Sy)
inductive CTs where
  | nil | cons (t : CT) (ts : CTs)
inductive CI where
  | seq (e : CE) | rng (a : CE) | rng2 (a b : CE) | enum (e : CE) | zip (a b : CE) | revd (e : CE) | kys (k : Nat)
end
mutual
inductive CS where
  | asg (t : CT) (e : CE) | aug (i : Nat) (op : BOp) (e : CE) | augs (o i : CE) (op : BOp) (e : CE) | augf (o : CE) (f : Sy) (op : BOp) (e : CE)
  | ex (e : CE) | ret (e : CE) | retn | pass | brk | cnt
  | ite (c : CE) (a b : CSs) | whl (c : CE) (b : CSs) | fr (t : CT) (it : CI) (b : CSs)
  | del (o i : CE) | rai (c : Nat) | try (b : CSs) (c : Nat) (x : Option Nat) (h : HSs)
  | lck (k : Nat) (s : CS)
  | bad
inductive CSs where
  | nil | cons (s : CS) (ss : CSs)
/-- an except suite: if isinstance(e, d): return v; return v -/
inductive HSs where
  | nil | cons (d : Option Nat) (v : CE) (r : HSs)
end
structure Fn where
  np : Nat
  ns : Nat
  body : CSs
structure Tab where
  fns : List Fn
  glob : List PV := []
  /-- constant dicts with texts for keys -/
  kds : List (List (Sy × PV)) := []
  /-- the exception classes: (c, d): c is a subclass of d -/
  sub : List (Nat × Nat) := []
  /-- the exception classes -/
  xs : List Nat := []
  /-- class, method's name, function -/
  meths : List (Nat × Sy × Nat) := []
  /-- class, its __init__ -/
  inits : List (Nat × Nat) := []
  /-- class, the attributes that its instances may have -/
  attrs : List (Nat × List Sy) := []
  /-- the turns that a loop may take -/
  F : Nat := 1000000
structure Cxi where
  call : Nat → List PV → Store → R PV
  init : Nat → List PV → Store → R PV
  T : Tab
  /-- there is a level below the calls: classes may be made -/
  low : Bool

/-! ### values -/
mutual
def PV.beq : PV → PV → Bool
  | .non, .non => true
  | .bl a, .bl b => a == b
  | .int a, .int b => a == b
  | .str a, .str b => a == b
  | .tup a, .tup b => PV.beqs a b
  | .rol a, .rol b => PV.beqs a b
  | .rot a, .rot b => PV.beqs a b
  | .ref a, .ref b => a == b
  | _, _ => false
def PV.beqs : List PV → List PV → Bool
  | [], [] => true
  | a :: as, b :: bs => PV.beq a b && PV.beqs as bs
  | _, _ => false
end
mutual
theorem PV.beq_iff : ∀ {a b : PV}, PV.beq a b = true ↔ a = b
  | .non, b => by cases b <;> simp [PV.beq]
  | .bl _, b => by cases b <;> simp [PV.beq]
  | .int _, b => by cases b <;> simp [PV.beq]
  | .str _, b => by cases b <;> simp [PV.beq]
  | .tup xs, b => by
    cases b <;> simp [PV.beq]
    exact PV.beqs_iff
  | .rol xs, b => by
    cases b <;> simp [PV.beq]
    exact PV.beqs_iff
  | .rot xs, b => by
    cases b <;> simp [PV.beq]
    exact PV.beqs_iff
  | .ref _, b => by cases b <;> simp [PV.beq]
theorem PV.beqs_iff : ∀ {a b : List PV}, PV.beqs a b = true ↔ a = b
  | [], [] => by simp [PV.beqs]
  | [], _ :: _ => by simp [PV.beqs]
  | _ :: _, [] => by simp [PV.beqs]
  | a :: as, b :: bs => by
    simp only [PV.beqs, Bool.and_eq_true, List.cons.injEq]
    rw [PV.beq_iff (a := a) (b := b), PV.beqs_iff (a := as) (b := bs)]
end
instance : DecidableEq PV := fun a b => decidable_of_iff (PV.beq a b = true) PV.beq_iff

/-- sizes of lists, tuples, texts -/
abbrev nsz : Nat := 16777216

/-! == of data: by the library's own -/
mutual
def pD : PV → Option PyData
  | .non => some .none
  | .bl b => some (.bool b)
  | .int i => some (.int i)
  | .str x => if x.all (· < 1114112) then some (.str ⟨x.toArray⟩) else none
  | .tup xs => (pDs xs).map .tuple
  | .rol xs => (pDs xs).map .list
  | .rot xs => (pDs xs).map .tuple
  | .ref _ => none
def pDs : List PV → Option (List PyData)
  | [] => some []
  | x :: xs => match pD x, pDs xs with
    | some d, some ds => some (d :: ds)
    | _, _ => none
end
def toD (S : Store) : PV → Option PyData
  | .ref p => match S[p]? with
    | some (.lst xs) => (pDs xs).map .list
    | _ => none
  | x => pD x
def pyEq (S : Store) (a b : PV) : Option Bool := match a, b with
  | .str x, .str y => some (x == y)
  | _, _ => match toD S a, toD S b with
    | some d, some e => if d.depth ≤ 60 ∧ e.depth ≤ 60 then some (PyData.eqv d e) else none
    | _, _ => none

def truthy (S : Store) : PV → Option Bool
  | .non => some false
  | .bl b => some b
  | .int i => some (i != 0)
  | .str x => if x.length ≤ nsz then some (!x.isEmpty) else none
  | .tup xs => some (!xs.isEmpty)
  | .rol xs => some (!xs.isEmpty)
  | .rot xs => some (!xs.isEmpty)
  | .ref p => match S[p]? with
    | some (.lst xs) => some (!xs.isEmpty)
    | _ => none

/-! ### dicts -/
/-- a key that stands alone -/
def isK : PV → Bool
  | .int _ => true
  | .str _ => true
  | _ => false
/-- a key of a dict of this kind -/
def isKey (t : Bool) : PV → Bool
  | .int _ => !t
  | .str _ => !t
  | .tup xs => t && xs.all isK
  | _ => false
def dget (kvs : List (PV × PV)) (k : PV) : Option PV := match kvs with
  | [] => none
  | (j, v) :: r => if PV.beq j k then some v else dget r k
def dput (kvs : List (PV × PV)) (k v : PV) : List (PV × PV) := match dget kvs k with
  | none => kvs ++ [(k, v)]
  | some _ => kvs.map fun q => if PV.beq q.1 k then (k, v) else q
def ddrop (kvs : List (PV × PV)) (k : PV) : List (PV × PV) := kvs.filter fun q => !PV.beq q.1 k
/-- the different ones of a list of ints, in the order of their first places -/
def dedupI (ns : List Int) : List Int := ns.foldl (fun acc k => if acc.any (· == k) then acc else acc ++ [k]) []
def intsOf : List PV → Option (List Int)
  | [] => some []
  | .int i :: r => (intsOf r).map (i :: ·)
  | _ :: _ => none
def lenSet (S : Store) : PV → Option PV
  | .ref p => match S[p]? with
    | some (.lst xs) => match intsOf xs with
      | some ns => if ns.length ≤ 4000 then some (.int (dedupI ns).length) else none
      | none => none
    | _ => none
  | _ => none
/-! ### operators -/
def insI (i : Int) : List Int → List Int
  | [] => [i]
  | j :: r => if i ≤ j then i :: j :: r else j :: insI i r
def sortI : List Int → List Int
  | [] => []
  | i :: r => insI i (sortI r)
def minI (i : Int) : List Int → Int
  | [] => i
  | j :: r => minI (if j < i then j else i) r
def maxI (i : Int) : List Int → Int
  | [] => i
  | j :: r => maxI (if i < j then j else i) r
abbrev W64 : Int := 18446744073709551616
def bop (op : BOp) (x y : PV) (S : Store) : R PV := match op, x, y with
  | .add, .int i, .int j => .ok (.int (i + j)) S
  | .add, .str a, .str b => if a.length + b.length ≤ nsz then .ok (.str (a ++ b)) S else .stuck
  | .add, .tup a, .tup b => if a.length + b.length ≤ nsz then .ok (.tup (a ++ b)) S else .stuck
  | .add, .ref p, .ref q => match S[p]?, S[q]? with
    | some (.lst a), some (.lst b) => if a.length + b.length ≤ nsz then .ok (.ref S.length) (S ++ [.lst (a ++ b)]) else .stuck
    | _, _ => .stuck
  | .sub, .int i, .int j => .ok (.int (i - j)) S
  | .sub, .bl p, .bl q => .ok (.int ((if p then 1 else 0) - (if q then 1 else 0))) S
  | .mul, .int i, .int j => if (-W64 < i ∧ i < W64) ∨ (-W64 < j ∧ j < W64) then .ok (.int (i * j)) S else .stuck
  | .mul, .str a, .int k => if -(2 ^ 63) ≤ k ∧ k < 2 ^ 63 ∧ a.length * k.toNat ≤ nsz then .ok (.str (List.replicate k.toNat a).flatten) S else .stuck
  | .mul, .tup a, .int k => if a ≠ [] ∧ 2 ≤ k ∧ k ≤ 1000 ∧ a.length ≤ 1000 then .ok (.tup (List.replicate k.toNat a).flatten) S else .stuck
  | .mul, .ref p, .int k => match S[p]? with
    | some (.lst a) => if -(2 ^ 63) ≤ k ∧ k < 2 ^ 63 ∧ a.length * k.toNat ≤ nsz then .ok (.ref S.length) (S ++ [.lst (List.replicate k.toNat a).flatten]) else .stuck
    | _ => .stuck
  | .fdiv, .int i, .int j => if 0 < j ∧ j < 1073741824 then .ok (.int (i / j)) S else .stuck
  | .mod, .int i, .int j => if 0 < j then .ok (.int (i % j)) S else .stuck
  | .pow, .int i, .int j => if 0 ≤ j ∧ j ≤ 1000000 ∧ i.natAbs < 2 ^ 64 then .ok (.int (i ^ j.toNat)) S else .stuck
  | _, _, _ => .stuck

/-- an integer's text -/
def strI (i : Int) : Sy := (PySem.Str.ofString (toString i)).cps.toList
/-- texts put together -/
def joinS (s : Sy) : List Sy → Sy
  | [] => []
  | [x] => x
  | x :: y :: r => x ++ (s ++ joinS s (y :: r))
def strsOf : List PV → Option (List Sy)
  | [] => some []
  | .str x :: r => (strsOf r).map (x :: ·)
  | _ :: _ => none
def ltSy : Sy → Sy → Bool
  | [], [] => false
  | [], _ :: _ => true
  | _ :: _, [] => false
  | a :: as, b :: bs => if a < b then true else if b < a then false else ltSy as bs
/-- the order of rows of ints and texts -/
def lexP : List PV → List PV → Option Bool
  | [], [] => some false
  | [], _ :: _ => some true
  | _ :: _, [] => some false
  | .int i :: xs, .int j :: ys => if i = j then lexP xs ys else some (decide (i < j))
  | .str a :: xs, .str b :: ys => if a = b then lexP xs ys else some (ltSy a b)
  | _ :: _, _ :: _ => none
/-- what stands alone -/
def flat : PV → Bool
  | .non => true
  | .bl _ => true
  | .int _ => true
  | .str _ => true
  | _ => false
/-- == of flat values -/
def eqF : PV → PV → Bool
  | .non, .non => true
  | .bl a, .bl b => a == b
  | .bl a, .int b => (if a then 1 else 0) == b
  | .int a, .bl b => a == (if b then 1 else 0)
  | .int a, .int b => a == b
  | .str a, .str b => a == b
  | _, _ => false
/-- a tuple among the items of a tuple, all of them data -/
def deepIn (x : PV) (ys : List PV) : Option Bool := match pD x, pDs ys with
  | some d, some ds => if d.depth ≤ 50 ∧ PyData.depthAll ds ≤ 50 then some (ds.any fun z => PyData.eqv z d) else none
  | _, _ => none
/-- .. among those of a list -/
def deepInL (x : PV) (ys : List PV) : Option Bool := match x with
  | .tup xs => deepIn (.tup xs) ys
  | _ => none
/-- x in y: the sign c in a text (a text of another length in a text is not served); a flat value in a list, a tuple of flat ones -/
def isin (S : Store) (x y : PV) : Option Bool := match x, y with
  | .str [c], .str b => some (b.elem c)
  | .tup xs, .tup ys => deepIn (.tup xs) ys
  | x, .tup ys => if flat x && ys.all flat then some (ys.any fun y => eqF y x) else none
  | x, .rol ys => if flat x && ys.all flat then some (ys.any fun y => eqF y x) else none
  | x, .rot ys => if flat x && ys.all flat then some (ys.any fun y => eqF y x) else none
  | x, .ref p => match S[p]? with
    | some (.lst ys) => if flat x && ys.all flat then some (ys.any fun y => eqF y x) else deepInL x ys
    | some (.dic t kvs) => if isKey t x then some (dget kvs x).isSome else none
    | _ => none
  | _, _ => none
def cop (op : COp) (x y : PV) (S : Store) : Option Bool := match op with
  | .eq => pyEq S x y
  | .ne => (pyEq S x y).map (!·)
  | .lt => match x, y with
    | .int i, .int j => some (decide (i < j))
    | .str a, .str b => some (ltSy a b)
    | .tup a, .tup b => lexP a b
    | .ref p, .ref q => (match S[p]?, S[q]? with
      | some (.lst a), some (.lst b) => lexP a b
      | _, _ => none)
    | _, _ => none
  | .le => match x, y with
    | .int i, .int j => some (decide (i ≤ j))
    | _, _ => none
  | .gt => match x, y with
    | .int i, .int j => some (decide (j < i))
    | .tup a, .tup b => lexP b a
    | _, _ => none
  | .ge => match x, y with
    | .int i, .int j => some (decide (j ≤ i))
    | _, _ => none
  | .is => match x, y with
    | .bl a, .bl b => some (decide (a = b))
    | x, .non => some (match x with | .non => true | _ => false)
    | _, _ => none
  | .isn => match x, y with
    | .bl a, .bl b => some (!decide (a = b))
    | x, .non => some (match x with | .non => false | _ => true)
    | _, _ => none
  | .inn => isin S x y
  | .nin => (isin S x y).map (!·)

def ixN (n : Nat) (i : Int) : Option Nat := if 0 ≤ i then (if i < n then some i.toNat else none) else if -(n : Int) ≤ i then some (i + n).toNat else none
def atI {α : Type} (xs : List α) (i : Int) : Option α := (ixN xs.length i).bind fun j => xs[j]?
def getIx (x y : PV) (S : Store) : Option PV := match x, y with
  | .tup xs, .int i => atI xs i
  | .rol xs, .int i => atI xs i
  | .rot xs, .int i => atI xs i
  | .str xs, .int i => if xs.length ≤ nsz then (atI xs i).map fun c => .str [c] else none
  | .ref p, k => match S[p]? with
    | some (.lst xs) => (match k with
      | .int i => atI xs i
      | _ => none)
    | some (.dic t kvs) => if isKey t k then dget kvs k else none
    | some (.fdc kvs) => if isKey false k then dget kvs k else none
    | _ => none
  | _, _ => none
/-- of a list -/
def getLi (x y : PV) (S : Store) : Option PV := match x, y with
  | .ref p, .int i => match S[p]? with
    | some (.lst xs) => atI xs i
    | _ => none
  | _, _ => none
/-- a slice's end as a place -/
def sIx (n d : Nat) : Option Int → Nat
  | none => d
  | some i => if i < 0 then (i + n).toNat else min i.toNat n
def cutL {α : Type} (xs : List α) (lo hi : Option Int) : List α := (xs.drop (sIx xs.length 0 lo)).take (sIx xs.length xs.length hi - sIx xs.length 0 lo)
def getSl (x : PV) (l h : Option Int) (S : Store) : R PV := match x with
  | .tup xs => .ok (.tup (cutL xs l h)) S
  | .str xs => if xs.length ≤ nsz then .ok (.str (cutL xs l h)) S else .stuck
  | .ref p => match S[p]? with
    | some (.lst xs) => .ok (.ref S.length) (S ++ [.lst (cutL xs l h)])
    | _ => .stuck
  | _ => .stuck

def isTy (S : Store) (x : PV) (t : Ty) : Option Bool := match x with
  | .non => some false
  | .bl _ => some (match t with | .int => true | .bool => true | _ => false)
  | .int _ => some (match t with | .int => true | _ => false)
  | .str _ => some (match t with | .str => true | _ => false)
  | .tup _ => some (match t with | .tuple => true | _ => false)
  | .rol _ => some (match t with | .list => true | _ => false)
  | .rot _ => some (match t with | .tuple => true | _ => false)
  | .ref p => match S[p]? with
    | some (.lst _) => some (match t with | .list => true | _ => false)
    | _ => none

def bools : List PV → Option (List Bool)
  | [] => some []
  | .bl b :: r => (bools r).map (b :: ·)
  | _ :: _ => none
def bfun (b : BF) (xs : List PV) (S : Store) : R PV := match b, xs with
  | .len, [.str x] => if x.length ≤ nsz then .ok (.int x.length) S else .stuck
  | .len, [.tup x] => .ok (.int x.length) S
  | .len, [.rol x] => .ok (.int x.length) S
  | .len, [.rot x] => .ok (.int x.length) S
  | .len, [.ref p] => match S[p]? with
    | some (.lst x) => .ok (.int x.length) S
    | some (.dic _ kvs) => .ok (.int kvs.length) S
    | _ => .stuck
  | .abs, [.int i] => .ok (.int (if i < 0 then -i else i)) S
  | .int, [.int i] => .ok (.int i) S
  | .int, [.bl b] => .ok (.int (if b then 1 else 0)) S
  | .str, [.int i] => if i.natAbs.log2 < 1920 then .ok (.str (strI i)) S else .stuck
  | .str, [.str x] => .ok (.str x) S
  | .list, [.tup x] => .ok (.ref S.length) (S ++ [.lst x])
  | .list, [.rol x] => .ok (.ref S.length) (S ++ [.lst x])
  | .list, [.ref p] => match S[p]? with
    | some (.lst x) => .ok (.ref S.length) (S ++ [.lst x])
    | _ => .stuck
  | .tuple, [.tup x] => .ok (.tup x) S
  | .tuple, [.rol x] => .ok (.tup x) S
  | .tuple, [.ref p] => match S[p]? with
    | some (.lst x) => .ok (.tup x) S
    | _ => .stuck
  | .all, [.ref p] => match S[p]? with
    | some (.lst x) => match bools x with
      | some bs => .ok (.bl (bs.all id)) S
      | none => .stuck
    | _ => .stuck
  | .any, [.ref p] => match S[p]? with
    | some (.lst x) => match bools x with
      | some bs => .ok (.bl (bs.any id)) S
      | none => .stuck
    | _ => .stuck
  | .sorted, [.ref p] => match S[p]? with
    | some (.lst x) => match intsOf x with
      | some ns => .ok (.ref S.length) (S ++ [.lst ((sortI ns).map .int)])
      | none => .stuck
    | _ => .stuck
  | .min, [.ref p] => match S[p]? with
    | some (.lst x) => match intsOf x with
      | some (i :: r) => .ok (.int (minI i r)) S
      | _ => .stuck
    | _ => .stuck
  | .max, [.ref p] => match S[p]? with
    | some (.lst x) => match intsOf x with
      | some (i :: r) => .ok (.int (maxI i r)) S
      | _ => .stuck
    | _ => .stuck
  | .max, [.int i, .int j] => .ok (.int (if j > i then j else i)) S
  | .min, [.int i, .int j] => .ok (.int (if j < i then j else i)) S
  | _, _ => .stuck

/-- methods of built-in types -/
def m_append : Sy := [97, 112, 112, 101, 110, 100]
def m_extend : Sy := [101, 120, 116, 101, 110, 100]
def m_pop : Sy := [112, 111, 112]
def m_index : Sy := [105, 110, 100, 101, 120]
def m_get : Sy := [103, 101, 116]
def m_setdefault : Sy := [115, 101, 116, 100, 101, 102, 97, 117, 108, 116]
/-- the methods of lists that are served -/
inductive LM where
  | append | extend | pop | index
  deriving DecidableEq
/-- the methods of texts that are served -/
inductive SM where
  | join | startswith | lower
  deriving DecidableEq
def smOf (m : Sy) : Option SM := if m = [106, 111, 105, 110] then some .join else if m = [115, 116, 97, 114, 116, 115, 119, 105, 116, 104] then some .startswith else if m = [108, 111, 119, 101, 114] then some .lower else none
def t_True : Sy := [84, 114, 117, 101]
def t_False : Sy := [70, 97, 108, 115, 101]
def t_true : Sy := [116, 114, 117, 101]
def t_false : Sy := [102, 97, 108, 115, 101]
def smeth (m : SM) (x : Sy) (xs : List PV) (S : Store) : R PV := match m, xs with
  | .join, [.ref p] => (match S[p]? with
    | some (.lst ys) => (match strsOf ys with
      | some zs => if (zs.map List.length).sum + zs.length * x.length ≤ nsz then .ok (.str (joinS x zs)) S else .stuck
      | none => .stuck)
    | _ => .stuck)
  | .startswith, [.str y] => .ok (.bl (decide (x.take y.length = y))) S
  | .lower, [] => if x = t_True then .ok (.str t_true) S else if x = t_False then .ok (.str t_false) S else .stuck
  | _, _ => .stuck
def lmOf (m : Sy) : Option LM := if m = m_append then some .append else if m = m_extend then some .extend else if m = m_pop then some .pop else if m = m_index then some .index else none
/-- a dict's method -/
def isDm (m : Sy) : Bool := decide (m = m_get) || decide (m = m_setdefault)
def lmeth (m : LM) (p : Nat) (xs : List PV) (S : Store) : R PV := match S[p]? with
  | some (.lst ys) => (match m, xs with
    | .append, [y] => if ys.length < nsz then .ok .non (S.set p (.lst (ys ++ [y]))) else .stuck
    | .extend, [.tup zs] => if ys.length + zs.length ≤ nsz then .ok .non (S.set p (.lst (ys ++ zs))) else .stuck
    | .extend, [.rot zs] => if ys.length + zs.length ≤ nsz then .ok .non (S.set p (.lst (ys ++ zs))) else .stuck
    | .extend, [.ref q] => (match S[q]? with
      | some (.lst zs) => if ys.length + zs.length ≤ nsz then .ok .non (S.set p (.lst (ys ++ zs))) else .stuck
      | _ => .stuck)
    | .index, [y] => if flat y && ys.all flat then (match ys.findIdx? (eqF · y) with
      | some j => .ok (.int j) S
      | none => .stuck) else .stuck
    | .pop, [.int i] => if i = 0 then (match ys with
      | y :: r => .ok y (S.set p (.lst r))
      | [] => .stuck) else .stuck
    | .pop, [] => (match ys[ys.length - 1]? with
      | some y => .ok y (S.set p (.lst ys.dropLast))
      | none => .stuck)
    | _, _ => .stuck)
  | _ => .stuck
def isDic (S : Store) (x : PV) : Option Unit := match x with
  | .ref p => match S[p]? with
    | some (.dic _ _) => some ()
    | _ => none
  | _ => none
/-- d.get(y, z) -/
def dGetV (S : Store) (x y z : PV) : Option PV := match x with
  | .ref p => match S[p]? with
    | some (.dic t kvs) => if isKey t y then some ((dget kvs y).getD z) else none
    | _ => none
  | _ => none
/-- d.setdefault(y, z) -/
def dSetV (S : Store) (x y z : PV) : R PV := match x with
  | .ref p => match S[p]? with
    | some (.dic t kvs) => if isKey t y && decide (kvs.length < nsz) then (match dget kvs y with
      | some v => .ok v S
      | none => .ok z (S.set p (.dic t (dput kvs y z)))) else .stuck
    | _ => .stuck
  | _ => .stuck
def zipP : List PV → List PV → List PV
  | x :: xs, y :: ys => .tup [x, y] :: zipP xs ys
  | _, _ => []
/-- list(zip(x, y)): of tuples -/
def lzipV (x y : PV) (S : Store) : R PV := match x, y with
  | .tup a, .tup b => if a.length = b.length then .ok (.ref S.length) (S ++ [.lst (zipP a b)]) else .stuck
  | _, _ => .stuck
/-! ### iterators -/
inductive ItV where
  | seq (xs : List PV) | ref (p : Nat) | rng (lo : Int) (n : Nat) | str (xs : Sy) | enT (xs : List PV) | enL (p : Nat) | kys (p : Nat)
/-- none: stuck; some none: at its end -/
def ItV.next (J : ItV) (i : Nat) (S : Store) : Option (Option PV) := match J with
  | .seq xs => some xs[i]?
  | .rng lo n => some (if i < n then some (.int (lo + i)) else none)
  | .str xs => some (xs[i]?.map fun c => .str [c])
  | .enT xs => some (xs[i]?.map fun x => .tup [.int (i : Nat), x])
  | .enL p => match S[p]? with
    | some (.lst xs) => some (xs[i]?.map fun x => .tup [.int (i : Nat), x])
    | _ => none
  | .kys p => match S[p]? with
    | some (.fdc kvs) => some (kvs[i]?.map (·.1))
    | _ => none
  | .ref p => match S[p]? with
    | some (.lst xs) => some xs[i]?
    | _ => none
def seqIt (x : PV) (S : Store) : R ItV := match x with
  | .tup xs => .ok (.seq xs) S
  | .rol xs => .ok (.seq xs) S
  | .rot xs => .ok (.seq xs) S
  | .str xs => .ok (.str xs) S
  | .ref p => match S[p]? with
    | some (.lst _) => .ok (.ref p) S
    | _ => .stuck
  | _ => .stuck
abbrev W62 : Int := 4611686018427387904
/-- the items of a tuple -/
def tupOf : PV → Option (List PV)
  | .tup xs => some xs
  | .rot xs => some xs
  | _ => none
/-- zip(x, y) of tuples of one length -/
def zipV (x y : PV) (S : Store) : R ItV := match tupOf x, tupOf y with
  | some a, some b => if a.length = b.length then .ok (.seq (zipP a b)) S else .stuck
  | _, _ => .stuck
/-- list(range(x, y)) -/
def lrngV (x y : PV) (S : Store) : R PV := match x, y with
  | .int i, .int j => if -W62 ≤ i ∧ i < W62 ∧ -W62 ≤ j ∧ j < W62 ∧ (j - i).toNat ≤ 4000 then .ok (.ref S.length) (S ++ [.lst ((List.range (j - i).toNat).map fun (k : Nat) => PV.int (i + (k : Int)))]) else .stuck
  | _, _ => .stuck

/-- a run out of which nothing is raised -/
def R.nox {α : Type} : R α → R α
  | .ok a S => .ok a S
  | .exc _ _ => .stuck
  | .stuck => .stuck
/-- a comprehension's loop: body gives the item or none -/
def lcLoop (body : PV → Store → R (Option PV)) (J : ItV) : Nat → Nat → List PV → Store → R PV
  | 0, _, _, _ => .stuck
  | F + 1, i, acc, S => match J.next i S with
    | none => .stuck
    | some none => .ok (.ref S.length) (S ++ [.lst acc])
    | some (some x) => (body x S).nox.bind fun o S => match o with
      | none => lcLoop body J F (i + 1) acc S
      | some y => if acc.length < nsz then lcLoop body J F (i + 1) (acc ++ [y]) S else .stuck

def wipe (ρ : Env) : List Nat → Env
  | [] => ρ
  | v :: vs => (wipe ρ vs).set v none
def getV (ρ : Env) (i : Nat) (S : Store) : R PV := match ρ[i]? with
  | some (some v) => .ok v S
  | _ => .stuck
def ofO {α : Type} (o : Option α) (S : Store) : R α := match o with
  | some a => .ok a S
  | none => .stuck
def lookF (f : Sy) : List (Sy × PV) → Option PV
  | [] => none
  | (g, x) :: r => if f = g then some x else lookF f r
def putF (f : Sy) (v : PV) : List (Sy × PV) → List (Sy × PV)
  | [] => [(f, v)]
  | (g, x) :: r => if g = f then (g, v) :: r else (g, x) :: putF f v r
def isAttr (T : Tab) (c : Nat) (f : Sy) : Bool := T.attrs.any fun q => q.1 == c && q.2.elem f
def getFld (T : Tab) (x : PV) (f : Sy) (S : Store) : Option PV := match x with
  | .ref p => match S[p]? with
    | some (.ins c fs) => if isAttr T c f then lookF f fs else none
    | _ => none
  | _ => none
def setFld (T : Tab) (x : PV) (f : Sy) (v : PV) (S : Store) : Option Store := match x with
  | .ref p => match S[p]? with
    | some (.ins c fs) => if isAttr T c f && decide (fs.length < 1000) then some (S.set p (.ins c (putF f v fs))) else none
    | _ => none
  | _ => none
/-- the class of an object -/
def clsAt (x : PV) (S : Store) : Option Nat := match x with
  | .ref p => match S[p]? with
    | some (.ins c _) => some c
    | _ => none
  | _ => none
/-- .. of the class that it had -/
def setFldC (T : Tab) (x : PV) (f : Sy) (v : PV) (S0 S : Store) : Option Store := if clsAt x S0 = clsAt x S then setFld T x f v S else none
def setIx (x i v : PV) (S : Store) : Option Store := match x with
  | .ref p => match S[p]? with
    | some (.lst xs) => (match i with
      | .int k => (ixN xs.length k).map fun j => S.set p (.lst (xs.set j v))
      | _ => none)
    | some (.dic t kvs) => if isKey t i && decide (kvs.length < nsz) then some (S.set p (.dic t (dput kvs i v))) else none
    | _ => none
  | _ => none
def delIx (x i : PV) (S : Store) : Option Store := match x with
  | .ref p => match S[p]? with
    | some (.dic false kvs) => if isKey false i && (dget kvs i).isSome then some (S.set p (.dic false (ddrop kvs i))) else none
    | _ => none
  | _ => none
def methOf (T : Tab) (c : Nat) (m : Sy) : Option Nat := (T.meths.find? fun q => q.1 == c && decide (q.2.1 = m)).map (·.2.2)
/-- what a method's name means for a receiver -/
inductive MT where
  | lst (m : LM) (p : Nat) | fn (f : Nat) (p : Nat) | str (m : SM) (x : Sy)
def mtOf (T : Tab) (x : PV) (m : Sy) (S : Store) : Option MT := match x with
  | .ref p => match S[p]? with
    | some (.lst _) => (lmOf m).map (.lst · p)
    | some (.dic _ _) => none
    | some (.fdc _) => none
    | some (.ins c fs) => if (lookF m fs).isNone then (methOf T c m).map (.fn · p) else none
    | none => none
  | .str x => (smOf m).map (.str · x)
  | _ => none
def runM (cx : Cxi) (xs : List PV) (S : Store) : MT → R PV
  | .lst m p => lmeth m p xs S
  | .fn f p => cx.call f (.ref p :: xs) S
  | .str m x => smeth m x xs S
def makeC (cx : Cxi) (c : Nat) (xs : List PV) (S : Store) : R PV := match cx.T.inits.lookup c with
  | some f => (cx.init f (.ref S.length :: xs) (S ++ [.ins c []])).bind fun v S' => match v with
    | .non => .ok (.ref S.length) S'
    | _ => .stuck
  | none => .stuck

mutual
def evalE (cx : Cxi) : CE → Env → Store → R PV
  | .var i, ρ, S => getV ρ i S
  | .con v, _, S => .ok v S
  | .glo k, _, S => ofO cx.T.glob[k]? S
  | .tup es, ρ, S => (evalEs cx es ρ S).bind fun xs S => if xs.length ≤ nsz then .ok (.tup xs) S else .stuck
  | .lst es, ρ, S => (evalEs cx es ρ S).bind fun xs S => if xs.length ≤ nsz then .ok (.ref S.length) (S ++ [.lst xs]) else .stuck
  | .dnew t, _, S => .ok (.ref S.length) (S ++ [.dic t []])
  | .ddis k v, ρ, S => (evalE cx k ρ S).bind fun x S => (evalE cx v ρ S).bind fun y S => if isKey false x then .ok (.ref S.length) (S ++ [.dic false [(x, y)]]) else .stuck
  | .ddist k v, ρ, S => (evalE cx k ρ S).bind fun x S => (evalE cx v ρ S).bind fun y S => if isKey true x then .ok (.ref S.length) (S ++ [.dic true [(x, y)]]) else .stuck
  | .lrng a b, ρ, S => (evalE cx a ρ S).bind fun x S => (evalE cx b ρ S).bind fun y S => lrngV x y S
  | .kdi k a, ρ, S => (evalE cx a ρ S).bind fun x S => match x, cx.T.kds[k]? with
    | .str z, some kvs => ofO (lookF z kvs) S
    | _, _ => .stuck
  | .kdin k a, ρ, S => (evalE cx a ρ S).bind fun x S => match x, cx.T.kds[k]? with
    | .str z, some kvs => .ok (.bl (lookF z kvs).isSome) S
    | _, _ => .stuck
  | .lens a, ρ, S => (evalE cx a ρ S).bind fun x S => ofO (lenSet S x) S
  | .dget1 o a, ρ, S => (evalE cx o ρ S).bind fun x S => (ofO (isDic S x) S).bind fun _ S => (evalE cx a ρ S).bind fun y S => ofO (dGetV S x y .non) S
  | .dget2 o a b, ρ, S => (evalE cx o ρ S).bind fun x S => (ofO (isDic S x) S).bind fun _ S => (evalE cx a ρ S).bind fun y S => (evalE cx b ρ S).bind fun z S => ofO (dGetV S x y z) S
  | .dset o a b, ρ, S => (evalE cx o ρ S).bind fun x S => (ofO (isDic S x) S).bind fun _ S => (evalE cx a ρ S).bind fun y S => (evalE cx b ρ S).bind fun z S => dSetV S x y z
  | .lzip a b, ρ, S => (evalE cx a ρ S).bind fun x S => (evalE cx b ρ S).bind fun y S => lzipV x y S
  | .bin op a b, ρ, S => (evalE cx a ρ S).bind fun x S => (evalE cx b ρ S).bind fun y S => bop op x y S
  | .neg a, ρ, S => (evalE cx a ρ S).bind fun x S => match x with
    | .int i => .ok (.int (-i)) S
    | _ => .stuck
  | .nt a, ρ, S => (evalE cx a ρ S).bind fun x S => (ofO (truthy S x) S).bind fun k S => .ok (.bl (!k)) S
  | .and a b, ρ, S => (evalE cx a ρ S).bind fun x S => (ofO (truthy S x) S).bind fun k S => if k then evalE cx b ρ S else .ok x S
  | .or a b, ρ, S => (evalE cx a ρ S).bind fun x S => (ofO (truthy S x) S).bind fun k S => if k then .ok x S else evalE cx b ρ S
  | .ife c a b, ρ, S => (evalE cx c ρ S).bind fun x S => (ofO (truthy S x) S).bind fun k S => if k then evalE cx a ρ S else evalE cx b ρ S
  | .cmp op a b, ρ, S => (evalE cx a ρ S).bind fun x S => (evalE cx b ρ S).bind fun y S => (ofO (cop op x y S) S).bind fun k S => .ok (.bl k) S
  | .chn o1 o2 a b c, ρ, S => (evalE cx a ρ S).bind fun x S => (evalE cx b ρ S).bind fun y S => (ofO (cop o1 x y S) S).bind fun k S =>
      if k then (evalE cx c ρ S).bind fun z S => (ofO (cop o2 y z S) S).bind fun k S => .ok (.bl k) S else .ok (.bl false) S
  | .idx a b, ρ, S => (evalE cx a ρ S).bind fun x S => (evalE cx b ρ S).bind fun y S => ofO (getIx x y S) S
  | .slc a lo hi, ρ, S => (evalE cx a ρ S).bind fun x S => (evalO cx lo ρ S).bind fun l S => (evalO cx hi ρ S).bind fun h S => getSl x l h S
  | .rev a, ρ, S => (evalE cx a ρ S).bind fun x S => match x with
    | .ref p => match S[p]? with
      | some (.lst xs) => .ok (.ref S.length) (S ++ [.lst xs.reverse])
      | _ => .stuck
    | .tup xs => .ok (.tup xs.reverse) S
    | _ => .stuck
  | .fld a f, ρ, S => (evalE cx a ρ S).bind fun x S => ofO (getFld cx.T x f S) S
  | .cal f es, ρ, S => (evalEs cx es ρ S).bind fun xs S => cx.call f xs S
  | .mth o m es, ρ, S => (evalE cx o ρ S).bind fun x S => (ofO (mtOf cx.T x m S) S).bind fun tg S => (evalEs cx es ρ S).bind fun xs S => runM cx xs S tg
  | .mk c es, ρ, S => if cx.low then (evalEs cx es ρ S).bind fun xs S => makeC cx c xs S else .stuck
  | .bf b es, ρ, S => (evalEs cx es ρ S).bind fun xs S => bfun b xs S
  | .isi a t, ρ, S => (evalE cx a ρ S).bind fun x S => (ofO (isTy S x t) S).bind fun k S => .ok (.bl k) S
  | .lc vs t it cond elt, ρ, S => (iterE cx it ρ S).bind fun J S => lcLoop (fun x S => (assignE cx t x (wipe ρ vs) S).bind fun ρ' S =>
      (evalE cx cond ρ' S).bind fun c S => (ofO (truthy S c) S).bind fun k S => if k then (evalE cx elt ρ' S).bind fun y S => .ok (some y) S else .ok none S) J cx.T.F 0 [] S
def evalO (cx : Cxi) : CO → Env → Store → R (Option Int)
  | .no, _, S => .ok none S
  | .ex e, ρ, S => (evalE cx e ρ S).bind fun x S => match x with
    | .int i => .ok (some i) S
    | _ => .stuck
def evalEs (cx : Cxi) : CEs → Env → Store → R (List PV)
  | .nil, _, S => .ok [] S
  | .cons e es, ρ, S => (evalE cx e ρ S).bind fun x S => (evalEs cx es ρ S).bind fun xs S => .ok (x :: xs) S
def assignE (cx : Cxi) : CT → PV → Env → Store → R Env
  | .name i, v, ρ, S => if i < ρ.length then .ok (ρ.set i (some v)) S else .stuck
  | .tup ts, v, ρ, S => match v with
    | .tup xs => assignEs cx ts xs ρ S
    | .ref p => (match S[p]? with
      | some (.lst xs) => assignEs cx ts xs ρ S
      | _ => .stuck)
    | _ => .stuck
  | .sub o i, v, ρ, S => (evalE cx o ρ S).bind fun x S => (evalE cx i ρ S).bind fun y S => (ofO (setIx x y v S) S).bind fun S' _ => .ok ρ S'
  | .fld o f, v, ρ, S => (evalE cx o ρ S).bind fun x S => (ofO (setFld cx.T x f v S) S).bind fun S' _ => .ok ρ S'
def assignEs (cx : Cxi) : CTs → List PV → Env → Store → R Env
  | .nil, [], ρ, S => .ok ρ S
  | .cons t ts, x :: xs, ρ, S => (assignE cx t x ρ S).bind fun ρ S => assignEs cx ts xs ρ S
  | _, _, _, _ => .stuck
def iterE (cx : Cxi) : CI → Env → Store → R ItV
  | .seq e, ρ, S => (evalE cx e ρ S).bind fun x S => seqIt x S
  | .rng a, ρ, S => (evalE cx a ρ S).bind fun x S => match x with
    | .int j => if -W62 ≤ j ∧ j < W62 then .ok (.rng 0 j.toNat) S else .stuck
    | _ => .stuck
  | .rng2 a b, ρ, S => (evalE cx a ρ S).bind fun x S => (evalE cx b ρ S).bind fun y S => match x, y with
    | .int i, .int j => if -W62 ≤ i ∧ i < W62 ∧ -W62 ≤ j ∧ j < W62 then .ok (.rng i (j - i).toNat) S else .stuck
    | _, _ => .stuck
  | .enum e, ρ, S => (evalE cx e ρ S).bind fun x S => match x with
    | .tup xs => .ok (.enT xs) S
    | .rot xs => .ok (.enT xs) S
    | .ref p => (match S[p]? with
      | some (.lst _) => .ok (.enL p) S
      | _ => .stuck)
    | _ => .stuck
  | .zip a b, ρ, S => (evalE cx a ρ S).bind fun x S => (evalE cx b ρ S).bind fun y S => zipV x y S
  | .revd e, ρ, S => (evalE cx e ρ S).bind fun x S => match x with
    | .int j => if -W62 ≤ j ∧ j < W62 ∧ j.toNat ≤ 4000 then .ok (.seq ((List.range j.toNat).reverse.map fun (k : Nat) => PV.int (k : Int))) S else .stuck
    | _ => .stuck
  | .kys k, ρ, S => (getV ρ k S).bind fun x S => match x with
    | .ref p => (match S[p]? with
      | some (.fdc _) => .ok (.kys p) S
      | _ => .stuck)
    | _ => .stuck
end

/-! ### statements -/
/-- an int's aug -/
def augI (op : BOp) (x y : PV) : Option PV := match x, y, op with
  | .int i, .int j, .add => some (.int (i + j))
  | .int i, .int j, .sub => some (.int (i - j))
  | _, _, _ => none
def subB (T : Tab) (c d : Nat) : Bool := T.sub.any fun q => q.1 == c && q.2 == d
/-- is an instance of c, without fields, one of d -/
def subO (T : Tab) (e : Exn) (d : Nat) : Option Bool := if e.fs.isEmpty && (T.xs.elem e.c && T.xs.elem d) then some (subB T e.c d) else none
def inX (x : Option Nat) (ρ : Env) : Bool := match x with
  | some i => decide (i < ρ.length)
  | none => true
def clr (x : Option Nat) (ρ : Env) : Env := match x with
  | some i => ρ.set i none
  | none => ρ
inductive Fl where
  | nx (ρ : Env) | rt (v : PV) | bk (ρ : Env) | ct (ρ : Env)
inductive RS where
  | ok (f : Fl) (S : Store)
  | exc (x : Exn) (ρ : Env) (S : Store)
  | stuck
/-- an expression within a statement whose slots are ρ -/
def R.at {α : Type} (ρ : Env) : R α → (α → Store → RS) → RS
  | .ok a S, f => f a S
  | .exc x S, _ => .exc x ρ S
  | .stuck, _ => .stuck
def RS.bind : RS → (Fl → Store → RS) → RS
  | .ok a S, f => f a S
  | .exc x ρ S, _ => .exc x ρ S
  | .stuck, _ => .stuck
def whLoop (test : Env → Store → R Bool) (body : Env → Store → RS) : Nat → Env → Store → RS
  | 0, _, _ => .stuck
  | F + 1, ρ, S => (test ρ S).at ρ fun k S => if k then (body ρ S).bind fun fl S => (match fl with
      | .nx ρ => whLoop test body F ρ S
      | .ct ρ => whLoop test body F ρ S
      | .bk ρ => .ok (.nx ρ) S
      | .rt v => .ok (.rt v) S) else .ok (.nx ρ) S
def frLoop (asg : PV → Env → Store → R Env) (body : Env → Store → RS) (J : ItV) : Nat → Nat → Env → Store → RS
  | 0, _, _, _ => .stuck
  | F + 1, i, ρ, S => match J.next i S with
    | none => .stuck
    | some none => .ok (.nx ρ) S
    | some (some x) => (asg x ρ S).nox.at ρ fun ρ S => (body ρ S).bind fun fl S => match fl with
      | .nx ρ => frLoop asg body J F (i + 1) ρ S
      | .ct ρ => frLoop asg body J F (i + 1) ρ S
      | .bk ρ => .ok (.nx ρ) S
      | .rt v => .ok (.rt v) S
def testE (cx : Cxi) (c : CE) (ρ : Env) (S : Store) : R Bool := (evalE cx c ρ S).bind fun x S => ofO (truthy S x) S
mutual
def execS (cx : Cxi) : CS → Env → Store → RS
  | .asg t e, ρ, S => (evalE cx e ρ S).at ρ fun v S => (assignE cx t v ρ S).nox.at ρ fun ρ S => .ok (.nx ρ) S
  | .aug i op e, ρ, S => (getV ρ i S).at ρ fun x S => (evalE cx e ρ S).at ρ fun y S => match x, y, op with
    | .int _, .int _, .add => (bop op x y S).at ρ fun z S => .ok (.nx (ρ.set i (some z))) S
    | .int _, .int _, .sub => (bop op x y S).at ρ fun z S => .ok (.nx (ρ.set i (some z))) S
    | _, _, _ => .stuck
  | .augs o i op e, ρ, S => (evalE cx o ρ S).at ρ fun x S => (evalE cx i ρ S).at ρ fun y S => (ofO (getLi x y S) S).at ρ fun v S => (evalE cx e ρ S).at ρ fun z S => (ofO (augI op v z) S).at ρ fun w S => (ofO (setIx x y w S) S).at ρ fun S' _ => .ok (.nx ρ) S'
  | .augf o f op e, ρ, S => (evalE cx o ρ S).at ρ fun x S => (ofO (getFld cx.T x f S) S).at ρ fun v S1 => (evalE cx e ρ S1).at ρ fun y S => (ofO (augI op v y) S).at ρ fun z S => (ofO (setFldC cx.T x f z S1 S) S).at ρ fun S' _ => .ok (.nx ρ) S'
  | .del o i, ρ, S => (evalE cx o ρ S).at ρ fun x S => (evalE cx i ρ S).at ρ fun y S => (ofO (delIx x y S) S).at ρ fun S' _ => .ok (.nx ρ) S'
  | .rai c, ρ, S => .exc ⟨c, []⟩ ρ S
  | .try b c x h, ρ, S => match execB cx b ρ S with
    | .ok fl S => .ok fl S
    | .exc e ρ S => match subO cx.T e c with
      | some true => if inX x ρ then execH cx h e x (clr x ρ) S else .stuck
      | some false => .exc e ρ S
      | none => .stuck
    | .stuck => .stuck
  | .ex e, ρ, S => (evalE cx e ρ S).at ρ fun _ S => .ok (.nx ρ) S
  | .ret e, ρ, S => (evalE cx e ρ S).at ρ fun v S => .ok (.rt v) S
  | .retn, _, S => .ok (.rt .non) S
  | .pass, ρ, S => .ok (.nx ρ) S
  | .brk, ρ, S => .ok (.bk ρ) S
  | .cnt, ρ, S => .ok (.ct ρ) S
  | .ite c a b, ρ, S => (testE cx c ρ S).at ρ fun k S => if k then execB cx a ρ S else execB cx b ρ S
  | .whl c b, ρ, S => whLoop (testE cx c) (execB cx b) cx.T.F ρ S
  | .fr t it b, ρ, S => (iterE cx it ρ S).at ρ fun J S => frLoop (assignE cx t) (execB cx b) J cx.T.F 0 ρ S
  | .lck k s, ρ, S => (match ρ[k]? with
    | some (some (.ref p)) => (match S[p]? with
      | some (.dic false kvs) => (match execS cx s ρ (S.set p (.fdc kvs)) with
        | .ok fl S1 => (match S1[p]? with
          | some (.fdc kvs1) => .ok fl (S1.set p (.dic false kvs1))
          | _ => .stuck)
        | _ => .stuck)
      | _ => .stuck)
    | _ => .stuck)
  | .bad, _, _ => .stuck
def execB (cx : Cxi) : CSs → Env → Store → RS
  | .nil, ρ, S => .ok (.nx ρ) S
  | .cons s ss, ρ, S => (execS cx s ρ S).bind fun fl S => match fl with
    | .nx ρ => execB cx ss ρ S
    | fl => .ok fl S
def execH (cx : Cxi) : HSs → Exn → Option Nat → Env → Store → RS
  | .nil, _, _, ρ, S => .ok (.nx ρ) S
  | .cons d v r, e, x, ρ, S => match (match d with | none => some true | some d => subO cx.T e d) with
    | some true => (evalE cx v ρ S).nox.at ρ fun w S => .ok (.rt w) S
    | some false => execH cx r e x ρ S
    | none => .stuck
end
def startEnv (fn : Fn) (args : List PV) : Env := args.map some ++ List.replicate (fn.ns - args.length) none
/-- what a body hands back -/
def RS.ret : RS → R PV
  | .ok (.nx _) S => .ok .non S
  | .ok (.rt v) S => .ok v S
  | .ok _ _ => .stuck
  | .exc x _ S => .exc x S
  | .stuck => .stuck
abbrev CallT := Nat → List PV → Store → R PV
/-- a def of the table runs; call: what its calls are; init: what its makings' __init__ are -/
def runF (T : Tab) (low : Bool) (call init : CallT) : CallT := fun f args S => match T.fns[f]? with
  | none => .stuck
  | some fn => if args.length = fn.np then (execB ⟨call, init, T, low⟩ fn.body (startEnv fn args) S).ret else .stuck
/-- one level below, this level -/
def callP (T : Tab) : Nat → CallT × CallT
  | 0 => (fun _ _ _ => .stuck, fun _ _ _ => .stuck)
  | n + 1 => ((callP T n).2, runF T (n != 0) (callP T n).2 (callP T n).1)
abbrev callF (T : Tab) (n : Nat) : CallT := (callP T n).2
abbrev cxF (T : Tab) (n : Nat) : Cxi := ⟨(callP T n).2, (callP T n).1, T, n != 0⟩
theorem callF_succ (T : Tab) (n f : Nat) (args : List PV) (S : Store) : callF T (n + 1) f args S = match T.fns[f]? with
    | none => .stuck
    | some fn => if args.length = fn.np then (execB (cxF T n) fn.body (startEnv fn args) S).ret else .stuck := rfl
mutual
def CT.slots : CT → List Nat
  | .name i => [i]
  | .tup ts => CTs.slots ts
  | .sub _ _ => []
  | .fld _ _ => []
def CTs.slots : CTs → List Nat
  | .nil => []
  | .cons t ts => t.slots ++ ts.slots
end
end L3
set_option maxRecDepth 100000
/-! L3Rel: how the interpreter's values and store lie in HandS's abstract heap. -/
namespace L3
open PySem PySem.Spec PyProof.Rows L2

abbrev toStr (x : Sy) : Str := ⟨x.toArray⟩
/-- what the top has written: the written part, the classes' addresses, the exception classes' addresses -/
structure G where
  K : PySem.W.Frag
  cl : Nat → Addr
  fa : Nat → Addr
/-- a list that is only read -/
def SqC (K : PySem.W.Frag) (H : Hp) (a : Addr) (xs : List V) : Prop :=
  (∃ o, H a = some (.frz o (.lst xs))) ∨
    ∃ (o : Obj) (its : Array Value) (n : Nat), K.lookup a = some o ∧ o.cls = .type "list" ∧ o.dict = none ∧ o.data = .seq its n ∧ its.size ≤ sizeLine ∧ Vals xs its.toList
theorem SqC.l {K : PySem.W.Frag} {H : Hp} {a : Addr} {xs : List V} (h : SqC K H a xs) : SqL K H a xs := by
  rcases h with h | h
  · exact .inl (.inr h)
  · exact .inr h
mutual
def RV (K : PySem.W.Frag) (α : List Addr) (H : Hp) : PV → V → Prop
  | .non, v => v = .non
  | .bl b, v => v = .bl b
  | .int i, v => v = .int i
  | .str x, v => v = .str (toStr x)
  | .tup xs, v => ∃ a vs, v = .ref a ∧ H a = some (.tup vs) ∧ RVs K α H xs vs
  | .rol xs, v => ∃ a vs, v = .ref a ∧ SqC K H a vs ∧ RVs K α H xs vs
  | .rot xs, v => ∃ a vs, v = .ref a ∧ SqT K H a vs ∧ RVs K α H xs vs
  | .ref n, v => ∃ a, α[n]? = some a ∧ v = .ref a
def RVs (K : PySem.W.Frag) (α : List Addr) (H : Hp) : List PV → List V → Prop
  | [], vs => vs = []
  | x :: xs, vs => ∃ w ws, vs = w :: ws ∧ RV K α H x w ∧ RVs K α H xs ws
end
/-- behind: the old objects' addresses, new ones behind them; what is not of the store stays -/
structure Ext (α : List Addr) (H : Hp) (α' : List Addr) (H' : Hp) : Prop where
  pre : ∃ β, α' = α ++ β ∧ ∀ b ∈ β, H b = none
  keep : ∀ a o, H a = some o → a ∉ α → H' a = some o
  there : ∀ a o, H a = some o → ∃ o', H' a = some o'
  tups : ∀ b xs, H b = some (.tup xs) → H' b = some (.tup xs)
  frzs : ∀ b o u, H b = some (.frz o u) → H' b = some (.frz o u)
theorem Ext.refl (α : List Addr) (H : Hp) : Ext α H α H := ⟨⟨[], by simp, by simp⟩, fun _ _ h _ => h, fun _ _ h => ⟨_, h⟩, fun _ _ h => h, fun _ _ _ h => h⟩
theorem Ext.trans {α α1 α2 : List Addr} {H H1 H2 : Hp} (a : Ext α H α1 H1) (b : Ext α1 H1 α2 H2) : Ext α H α2 H2 := by
  obtain ⟨β, rfl, hβ⟩ := a.pre
  obtain ⟨γ, rfl, hγ⟩ := b.pre
  refine ⟨⟨β ++ γ, by simp, fun c hc => ?_⟩, fun c o h hc => ?_, fun c o h => ?_, fun c xs h => b.tups c xs (a.tups c xs h), fun c o u h => b.frzs c o u (a.frzs c o u h)⟩
  · rcases List.mem_append.mp hc with h | h
    · exact hβ c h
    · cases q : H c with
      | none => rfl
      | some o =>
        obtain ⟨o', q'⟩ := a.there c o q
        rw [hγ c h] at q'; cases q'
  · refine b.keep c o (a.keep c o h hc) fun hm => ?_
    rcases List.mem_append.mp hm with h1 | h1
    · exact hc h1
    · rw [hβ c h1] at h; cases h
  · obtain ⟨o1, h1⟩ := a.there c o h
    exact b.there c o1 h1
theorem Ext.at {α α' : List Addr} {H H' : Hp} (e : Ext α H α' H') {n : Nat} {a : Addr} (h : α[n]? = some a) : α'[n]? = some a := by
  obtain ⟨β, rfl, _⟩ := e.pre
  rw [List.getElem?_append_left (List.getElem?_eq_some_iff.mp h).1]
  exact h
/-- what a value leans on -/
structure Kp (α : List Addr) (H : Hp) (α' : List Addr) (H' : Hp) : Prop where
  at_ : ∀ (n : Nat) (a : Addr), α[n]? = some a → α'[n]? = some a
  tups : ∀ b xs, H b = some (.tup xs) → H' b = some (.tup xs)
  frzs : ∀ b o u, H b = some (.frz o u) → (∀ ds, u ≠ .dK ds) → H' b = some (.frz o u)
theorem Ext.kp {α α' : List Addr} {H H' : Hp} (e : Ext α H α' H') : Kp α H α' H' := ⟨fun _ _ h => e.at h, e.tups, fun b o u h _ => e.frzs b o u h⟩
theorem Kp.sqT {K : PySem.W.Frag} {α α' : List Addr} {H H' : Hp} (e : Kp α H α' H') {a : Addr} {xs : List V} (h : SqT K H a xs) : SqT K H' a xs := by
  rcases h with (h | ⟨o, h⟩) | h
  · exact .inl (.inl (e.tups _ _ h))
  · exact .inl (.inr ⟨o, e.frzs _ _ _ h (fun _ z => nomatch z)⟩)
  · exact .inr h
theorem Kp.sqC {K : PySem.W.Frag} {α α' : List Addr} {H H' : Hp} (e : Kp α H α' H') {a : Addr} {xs : List V} (h : SqC K H a xs) : SqC K H' a xs := by
  rcases h with ⟨o, h⟩ | h
  · exact .inl ⟨o, e.frzs _ _ _ h (fun _ z => nomatch z)⟩
  · exact .inr h
theorem Ext.sqT {K : PySem.W.Frag} {α α' : List Addr} {H H' : Hp} (e : Ext α H α' H') {a : Addr} {xs : List V} (h : SqT K H a xs) : SqT K H' a xs := e.kp.sqT h
theorem Ext.sqC {K : PySem.W.Frag} {α α' : List Addr} {H H' : Hp} (e : Ext α H α' H') {a : Addr} {xs : List V} (h : SqC K H a xs) : SqC K H' a xs := e.kp.sqC h
mutual
theorem RV.kp {K : PySem.W.Frag} {α α' : List Addr} {H H' : Hp} (e : Kp α H α' H') : ∀ {x : PV} {v : V}, RV K α H x v → RV K α' H' x v
  | .non, _, h => h
  | .bl _, _, h => h
  | .int _, _, h => h
  | .str _, _, h => h
  | .tup xs, _, h => by
    obtain ⟨a, vs, h1, h2, h3⟩ := h
    exact ⟨a, vs, h1, e.tups _ _ h2, RVs.kp e h3⟩
  | .rot xs, _, h => by
    obtain ⟨a, vs, h1, h2, h3⟩ := h
    exact ⟨a, vs, h1, e.sqT h2, RVs.kp e h3⟩
  | .rol xs, _, h => by
    obtain ⟨a, vs, h1, h2, h3⟩ := h
    exact ⟨a, vs, h1, e.sqC h2, RVs.kp e h3⟩
  | .ref n, _, h => by
    obtain ⟨a, h1, h2⟩ := h
    exact ⟨a, e.at_ _ _ h1, h2⟩
theorem RVs.kp {K : PySem.W.Frag} {α α' : List Addr} {H H' : Hp} (e : Kp α H α' H') : ∀ {xs : List PV} {vs : List V}, RVs K α H xs vs → RVs K α' H' xs vs
  | [], _, h => h
  | x :: xs, _, h => by
    obtain ⟨w, ws, h1, h2, h3⟩ := h
    exact ⟨w, ws, h1, RV.kp e h2, RVs.kp e h3⟩
end
theorem RV.ext {K : PySem.W.Frag} {α α' : List Addr} {H H' : Hp} {x : PV} {v : V} (h : RV K α H x v) (e : Ext α H α' H') : RV K α' H' x v := h.kp e.kp
theorem RVs.ext {K : PySem.W.Frag} {α α' : List Addr} {H H' : Hp} {x : List PV} {v : List V} (h : RVs K α H x v) (e : Ext α H α' H') : RVs K α' H' x v := h.kp e.kp
section
variable {K : PySem.W.Frag} {α α' : List Addr} {H H' : Hp}
theorem RVs.length : ∀ {xs : List PV} {vs : List V}, RVs K α H xs vs → xs.length = vs.length
  | [], _, h => by cases h; rfl
  | x :: xs, _, h => by
    obtain ⟨w, ws, rfl, _, h3⟩ := h
    simp [RVs.length h3]
theorem RVs.at : ∀ {xs : List PV} {vs : List V} {i : Nat} {x : PV}, RVs K α H xs vs → xs[i]? = some x → ∃ v, vs[i]? = some v ∧ RV K α H x v
  | [], _, _, _, _, e => by simp at e
  | x :: xs, _, 0, y, h, e => by
    obtain ⟨w, ws, rfl, h2, _⟩ := h
    simp at e
    subst e
    exact ⟨w, rfl, h2⟩
  | x :: xs, _, i + 1, y, h, e => by
    obtain ⟨w, ws, rfl, _, h3⟩ := h
    obtain ⟨v, h4, h5⟩ := RVs.at (i := i) h3 (by simpa using e)
    exact ⟨v, by simpa using h4, h5⟩
theorem RVs.at' : ∀ {xs : List PV} {vs : List V} {i : Nat} {v : V}, RVs K α H xs vs → vs[i]? = some v → ∃ x, xs[i]? = some x ∧ RV K α H x v := fun {xs vs i v} h e => by
  have hl := h.length
  have hi := (List.getElem?_eq_some_iff.mp e).1
  have hx : i < xs.length := by omega
  obtain ⟨w, h1, h2⟩ := h.at (i := i) (x := xs[i]) (by simp [hx])
  rw [e] at h1
  cases h1
  exact ⟨_, by simp [hx], h2⟩
theorem RVs.append : ∀ {xs ys : List PV} {vs ws : List V}, RVs K α H xs vs → RVs K α H ys ws → RVs K α H (xs ++ ys) (vs ++ ws)
  | [], ys, vs, ws, h, q => by cases h; exact q
  | x :: xs, ys, _, ws, h, q => by
    obtain ⟨w, ws', rfl, h2, h3⟩ := h
    exact ⟨w, ws' ++ ws, rfl, h2, RVs.append h3 q⟩
theorem RVs.drop : ∀ {xs : List PV} {vs : List V} (n : Nat), RVs K α H xs vs → RVs K α H (xs.drop n) (vs.drop n)
  | xs, vs, 0, h => h
  | [], _, n + 1, h => by cases h; exact rfl
  | x :: xs, _, n + 1, h => by
    obtain ⟨w, ws', rfl, h2, h3⟩ := h
    exact RVs.drop n h3
theorem RVs.take : ∀ {xs : List PV} {vs : List V} (n : Nat), RVs K α H xs vs → RVs K α H (xs.take n) (vs.take n)
  | xs, vs, 0, h => rfl
  | [], _, n + 1, h => by cases h; exact rfl
  | x :: xs, _, n + 1, h => by
    obtain ⟨w, ws', rfl, h2, h3⟩ := h
    exact ⟨w, ws'.take n, rfl, h2, RVs.take n h3⟩
theorem RVs.set : ∀ {xs : List PV} {vs : List V} (i : Nat) {x : PV} {v : V}, RV K α H x v → RVs K α H xs vs → RVs K α H (xs.set i x) (vs.set i v)
  | [], _, i, _, _, _, h => by cases h; exact rfl
  | y :: xs, _, 0, x, v, r, h => by
    obtain ⟨w, ws', rfl, h2, h3⟩ := h
    exact ⟨v, ws', rfl, r, h3⟩
  | y :: xs, _, i + 1, x, v, r, h => by
    obtain ⟨w, ws', rfl, h2, h3⟩ := h
    exact ⟨w, ws'.set i v, rfl, h2, RVs.set i r h3⟩
theorem RVs.rev {xs : List PV} {vs : List V} (h : RVs K α H xs vs) : RVs K α H xs.reverse vs.reverse := by
  induction xs generalizing vs with
  | nil => cases h; exact rfl
  | cons x xs ih =>
    obtain ⟨w, ws', rfl, h2, h3⟩ := h
    rw [List.reverse_cons, List.reverse_cons]
    exact RVs.append (ih h3) ⟨w, [], rfl, h2, rfl⟩
theorem RVs.rep {xs : List PV} {vs : List V} (h : RVs K α H xs vs) : ∀ k : Nat, RVs K α H (List.replicate k xs).flatten (List.replicate k vs).flatten
  | 0 => rfl
  | k + 1 => by
    rw [List.replicate_succ, List.replicate_succ, List.flatten_cons, List.flatten_cons]
    exact RVs.append h (RVs.rep h k)
theorem RVs.one {x : PV} {vs : List V} (h : RVs K α H [x] vs) : ∃ v, vs = [v] ∧ RV K α H x v := by
  obtain ⟨w, ws, rfl, h2, h3⟩ := h
  cases h3
  exact ⟨w, rfl, h2⟩
theorem RVs.two {x y : PV} {vs : List V} (h : RVs K α H [x, y] vs) : ∃ v w, vs = [v, w] ∧ RV K α H x v ∧ RV K α H y w := by
  obtain ⟨w, ws, rfl, h2, h3⟩ := h
  obtain ⟨v, rfl, h4⟩ := RVs.one h3
  exact ⟨w, v, rfl, h2, h4⟩
end

/-! ### the store -/
def RF (K : PySem.W.Frag) (α : List Addr) (H : Hp) : List (Sy × PV) → List (Str × V) → Prop
  | [], gs => gs = []
  | (f, x) :: fs, gs => ∃ w ws, gs = (toStr f, w) :: ws ∧ RV K α H x w ∧ RF K α H fs ws
/-- the keys of a dict: ints and texts; tuples of these -/
def keyOf : PV → Option Key
  | .int i => some (.inl i)
  | .str x => some (.inr (toStr x))
  | _ => none
def RKs : List PV → List Key → Prop
  | [], ks => ks = []
  | x :: xs, ks => ∃ k r, ks = k :: r ∧ keyOf x = some k ∧ RKs xs r
def RDg {κ : Type} (kr : PV → κ → Prop) (K : PySem.W.Frag) (α : List Addr) (H : Hp) : List (PV × PV) → List (κ × V) → Prop
  | [], kvs => kvs = []
  | (k, x) :: r, kvs => ∃ j w ws, kvs = (j, w) :: ws ∧ kr k j ∧ RV K α H x w ∧ RDg kr K α H r ws
def krK : PV → Key → Prop := fun k j => keyOf k = some j
def krT : PV → List Key → Prop := fun k j => ∃ xs, k = .tup xs ∧ RKs xs j
abbrev RD (K : PySem.W.Frag) (α : List Addr) (H : Hp) : List (PV × PV) → List (Key × V) → Prop := RDg krK K α H
abbrev RDT (K : PySem.W.Frag) (α : List Addr) (H : Hp) : List (PV × PV) → List (List Key × V) → Prop := RDg krT K α H
def MOk (g : G) (α : List Addr) (H : Hp) (a : Addr) : MO → Prop
  | .lst xs => ∃ vs, H a = some (.lst vs) ∧ RVs g.K α H xs vs
  | .dic false kvs => ∃ ds, H a = some (.dK ds) ∧ RD g.K α H kvs ds
  | .dic true kvs => ∃ ds, H a = some (.dT ds) ∧ RDT g.K α H kvs ds
  | .ins c fs => ∃ dx gs, H a = some (.ins (g.cl c) dx gs) ∧ RF g.K α H fs gs
  | .fdc kvs => ∃ o ds, H a = some (.frz o (.dK ds)) ∧ RD g.K α H kvs ds
structure Rep (g : G) (α : List Addr) (S : Store) (H : Hp) : Prop where
  len : α.length = S.length
  nd : α.Nodup
  ok : ∀ (n : Nat) (o : MO), S[n]? = some o → ∃ a, α[n]? = some a ∧ MOk g α H a o
section
variable {g : G} {α α' : List Addr} {H H' : Hp} {S : Store} {a p : Addr}
theorem RF.kp {K : PySem.W.Frag} (e : Kp α H α' H') : ∀ {fs : List (Sy × PV)} {gs : List (Str × V)}, RF K α H fs gs → RF K α' H' fs gs
  | [], _, h => h
  | (f, x) :: fs, _, h => by
    obtain ⟨w, ws, h1, h2, h3⟩ := h
    exact ⟨w, ws, h1, h2.kp e, RF.kp e h3⟩
theorem RDg.kp {κ : Type} {kr : PV → κ → Prop} {K : PySem.W.Frag} (e : Kp α H α' H') : ∀ {fs : List (PV × PV)} {gs : List (κ × V)}, RDg kr K α H fs gs → RDg kr K α' H' fs gs
  | [], _, h => h
  | (f, x) :: fs, _, h => by
    obtain ⟨j, w, ws, h1, h2, h3, h4⟩ := h
    exact ⟨j, w, ws, h1, h2, h3.kp e, RDg.kp e h4⟩
/-- an object's description, where its own place is as it was -/
theorem MOk.kp (e : Kp α H α' H') (h : H' a = H a) : ∀ {o : MO}, MOk g α H a o → MOk g α' H' a o
  | .lst xs, ⟨vs, h1, h2⟩ => ⟨vs, h.trans h1, h2.kp e⟩
  | .dic false kvs, ⟨ds, h1, h2⟩ => ⟨ds, h.trans h1, RDg.kp e h2⟩
  | .dic true kvs, ⟨ds, h1, h2⟩ => ⟨ds, h.trans h1, RDg.kp e h2⟩
  | .ins c fs, ⟨dx, gs, h1, h2⟩ => ⟨dx, gs, h.trans h1, h2.kp e⟩
  | .fdc kvs, ⟨o, ds, h1, h2⟩ => ⟨o, ds, h.trans h1, RDg.kp e h2⟩
theorem MOk.ext {o : MO} (e : Ext α H α' H') (h : H' a = H a) (m : MOk g α H a o) : MOk g α' H' a o := m.kp e.kp h
/-- what lies at an object's place -/
def isM : HO → Bool
  | .lst _ => true
  | .dK _ => true
  | .dT _ => true
  | .ins _ _ _ => true
  | _ => false
theorem MOk.there : ∀ {o : MO}, MOk g α H a o → ∃ u, H a = some u
  | .lst xs, ⟨vs, h1, h2⟩ => ⟨_, h1⟩
  | .dic false kvs, ⟨ds, h1, h2⟩ => ⟨_, h1⟩
  | .dic true kvs, ⟨ds, h1, h2⟩ => ⟨_, h1⟩
  | .ins c fs, ⟨dx, gs, h1, h2⟩ => ⟨_, h1⟩
  | .fdc kvs, ⟨o, ds, h1, h2⟩ => ⟨_, h1⟩
theorem Rep.mem (r : Rep g α S H) (h : a ∈ α) : ∃ u, H a = some u := by
  obtain ⟨n, hn, e⟩ := List.mem_iff_getElem.mp h
  have hS : n < S.length := by rw [← r.len]; exact hn
  obtain ⟨b, hb, q⟩ := r.ok n S[n] (by simp [hS])
  rw [List.getElem?_eq_getElem hn, e] at hb
  cases hb
  exact q.there
theorem Rep.at (r : Rep g α S H) {n : Nat} {o : MO} (h : S[n]? = some o) (ha : α[n]? = some a) : MOk g α H a o := by
  obtain ⟨b, hb, q⟩ := r.ok n o h
  rw [ha] at hb
  cases hb
  exact q
theorem Rep.out (r : Rep g α S H) (h : H a = none) : a ∉ α := fun m => by
  obtain ⟨u, q⟩ := r.mem m
  rw [h] at q; cases q
/-- a new thing that is not of the store -/
theorem Ext.new (hp : H p = none) (o : HO) : Ext α H α (upd H p o) := by
  have ne : ∀ b u, H b = some u → b ≠ p := fun b u h z => by rw [z, hp] at h; cases h
  exact ⟨⟨[], by simp, by simp⟩, fun b u h _ => by rw [upd_ne (ne b u h)]; exact h, fun b u h => ⟨u, by rw [upd_ne (ne b u h)]; exact h⟩, fun b u h => by rw [upd_ne (ne b _ h)]; exact h, fun b o u h => by rw [upd_ne (ne b _ h)]; exact h⟩
theorem Rep.kp (r : Rep g α S H) (e : Kp α H α H') (h : ∀ b ∈ α, H' b = H b) : Rep g α S H' :=
  ⟨r.len, r.nd, fun n o q => let ⟨b, hb, z⟩ := r.ok n o q; ⟨b, hb, z.kp e (h b (List.mem_of_getElem? hb))⟩⟩
theorem Rep.ext0 (r : Rep g α S H) (e : Ext α H α H') (h : ∀ b ∈ α, H' b = H b) : Rep g α S H' := r.kp e.kp h
theorem Rep.new (r : Rep g α S H) (hp : H p = none) (o : HO) : Rep g α S (upd H p o) :=
  r.ext0 (Ext.new hp o) fun b hb => upd_ne fun z => by
    subst z
    exact r.out hp hb
/-- a new object of the store -/
theorem Ext.push (r : Rep g α S H) (hp : H p = none) (o : HO) : Ext α H (α ++ [p]) (upd H p o) := by
  have e := Ext.new (α := α) hp o
  exact ⟨⟨[p], rfl, fun b hb => by simp at hb; subst hb; exact hp⟩, e.keep, e.there, e.tups, e.frzs⟩
theorem Rep.push (r : Rep g α S H) (hp : H p = none) {o : HO} {mo : MO} (h : MOk g (α ++ [p]) (upd H p o) p mo) : Rep g (α ++ [p]) (S ++ [mo]) (upd H p o) := by
  have e := Ext.push r hp o
  refine ⟨by simp [r.len], ?_, fun n q hn => ?_⟩
  · rw [List.nodup_append]
    refine ⟨r.nd, by simp, fun b hb c hc => ?_⟩
    simp at hc
    subst hc
    intro z
    subst z
    exact r.out hp hb
  · by_cases hlt : n < S.length
    · rw [List.getElem?_append_left hlt] at hn
      obtain ⟨b, hb, z⟩ := r.ok n q hn
      refine ⟨b, e.at hb, z.ext e (upd_ne fun y => ?_)⟩
      subst y
      exact r.out hp (List.mem_of_getElem? hb)
    · have hnl : n < (S ++ [mo]).length := (List.getElem?_eq_some_iff.mp hn).1
      have hn2 : n = S.length := by simp at hnl; omega
      subst hn2
      simp at hn
      subst hn
      exact ⟨p, by rw [← r.len]; simp, h⟩
/-- an object of the store changes -/
theorem Ext.set {u : HO} (ha : a ∈ α) (q : H a = some u) (m : isM u = true) (o : HO) : Ext α H α (upd H a o) := by
  refine ⟨⟨[], by simp, by simp⟩, fun b v h hb => ?_, fun b v h => ?_, fun b xs h => ?_, fun b w v h => ?_⟩
  · rw [upd_ne fun z => hb (by rw [z]; exact ha)]; exact h
  · by_cases z : b = a
    · subst z; exact ⟨o, upd_same⟩
    · exact ⟨v, by rw [upd_ne z]; exact h⟩
  · rw [upd_ne fun z => by subst z; rw [q] at h; cases h; cases m]; exact h
  · rw [upd_ne fun z => by subst z; rw [q] at h; cases h; cases m]; exact h
theorem Rep.set (r : Rep g α S H) {n : Nat} (ha : α[n]? = some a) {o : HO} {mo : MO} (e : Kp α H α (upd H a o)) (h : MOk g α (upd H a o) a mo) : Rep g α (S.set n mo) (upd H a o) := by
  refine ⟨by simp [r.len], r.nd, fun k q hk => ?_⟩
  by_cases hkn : k = n
  · subst hkn
    have hl : k < S.length := by
      have := (List.getElem?_eq_some_iff.mp hk).1
      simpa using this
    rw [List.getElem?_set_self hl] at hk
    cases hk
    exact ⟨a, ha, h⟩
  · rw [List.getElem?_set_ne (Ne.symm hkn)] at hk
    obtain ⟨b, hb, z⟩ := r.ok k q hk
    refine ⟨b, hb, z.kp e (upd_ne fun y => ?_)⟩
    subst y
    have h1 := (List.getElem?_eq_some_iff.mp ha)
    have h2 := (List.getElem?_eq_some_iff.mp hb)
    obtain ⟨l1, e1⟩ := h1
    obtain ⟨l2, e2⟩ := h2
    exact hkn ((List.getElem_inj r.nd).mp (e2.trans e1.symm))
end

/-! ### the slots -/
structure RE (g : G) (α : List Addr) (H : Hp) (ρ : Env) (σ : L2.St) : Prop where
  len : ρ.length = σ.length
  at_ : ∀ (i : Nat) (v : PV), ρ[i]? = some (some v) → ∃ w, σ[i]? = some (some w) ∧ RV g.K α H v w
section
variable {g : G} {α α' : List Addr} {H H' : Hp} {ρ : Env} {σ : L2.St}
theorem RE.kp (r : RE g α H ρ σ) (e : Kp α H α' H') : RE g α' H' ρ σ := ⟨r.len, fun i v h => let ⟨w, h1, h2⟩ := r.at_ i v h; ⟨w, h1, h2.kp e⟩⟩
theorem RE.ext (r : RE g α H ρ σ) (e : Ext α H α' H') : RE g α' H' ρ σ := r.kp e.kp
theorem RE.set (r : RE g α H ρ σ) {i : Nat} {x : PV} {w : V} (h : RV g.K α H x w) : RE g α H (ρ.set i (some x)) (σ.set i (some w)) := by
  refine ⟨by simp [r.len], fun j v hj => ?_⟩
  by_cases z : j = i
  · subst z
    have hl : j < ρ.length := by simpa using (List.getElem?_eq_some_iff.mp hj).1
    rw [List.getElem?_set_self hl] at hj
    cases hj
    exact ⟨w, by rw [List.getElem?_set_self (by rw [← r.len]; exact hl)], h⟩
  · rw [List.getElem?_set_ne (Ne.symm z)] at hj
    obtain ⟨w', h1, h2⟩ := r.at_ j v hj
    exact ⟨w', by rw [List.getElem?_set_ne (Ne.symm z)]; exact h1, h2⟩
theorem wipe_len (ρ : Env) : ∀ vs : List Nat, (L3.wipe ρ vs).length = ρ.length
  | [] => rfl
  | v :: vs => by unfold L3.wipe; rw [List.length_set, wipe_len ρ vs]
theorem RE.wipe (r : RE g α H ρ σ) : ∀ vs : List Nat, RE g α H (L3.wipe ρ vs) (L2.wipe σ vs)
  | [] => r
  | v :: vs => by
    have ih := RE.wipe r vs
    refine ⟨by rw [wipe_len, wipe_length]; exact r.len, fun j x hj => ?_⟩
    unfold L3.wipe at hj
    unfold L2.wipe
    by_cases z : j = v
    · subst z
      by_cases hl : j < (L3.wipe ρ vs).length
      · rw [List.getElem?_set_self hl] at hj
        cases hj
      · rw [List.getElem?_eq_none (by simpa using hl)] at hj
        cases hj
    · rw [List.getElem?_set_ne (Ne.symm z)] at hj ⊢
      exact ih.at_ j x hj
end

/-! ### what is asked of a run -/
/-- an exception: its class, its own dict -/
def RX (g : G) (x : Exn) (c : Value) (d : Option Addr) (α : List Addr) (H : Hp) : Prop :=
  c = .ref (g.cl x.c) ∧ ((x.fs = [] ∧ d = none) ∨ (x.fs ≠ [] ∧ ∃ a gs, d = some a ∧ H a = some (.xd gs) ∧ RF g.K α H x.fs gs))
abbrev PP (β : Type) := List Addr → Hp → β → Store → Prop
def Pst (g : G) {β : Type} (α : List Addr) (H : Hp) (P : PP β) (b : β) (S : Store) : Prop := ∀ α' H', Ext α H α' H' → Rep g α' S H' → P α' H' b S
def Wp (g : G) {β : Type} (r : R β) (α : List Addr) (H : Hp) (P : PP β) (E : PP Exn) : Prop := match r with
  | .ok b S => Pst g α H P b S
  | .exc x S => Pst g α H E x S
  | .stuck => False
section
variable {g : G} {β γ : Type} {r : R β} {α α' : List Addr} {H H' : Hp} {P P' : PP β} {E E' : PP Exn}
theorem Pst.ext {b : β} {S : Store} (h : Pst g α H P b S) (e : Ext α H α' H') : Pst g α' H' P b S := fun α2 H2 e2 r2 => h α2 H2 (e.trans e2) r2
theorem Wp.ext (h : Wp g r α H P E) (e : Ext α H α' H') : Wp g r α' H' P E := by
  cases r with
  | ok b S => exact Pst.ext h e
  | exc x S => exact Pst.ext h e
  | stuck => exact h
theorem Wp.imp (h : Wp g r α H P E) (hp : ∀ α' H' b S, Ext α H α' H' → Rep g α' S H' → P α' H' b S → P' α' H' b S) (he : ∀ α' H' x S, Ext α H α' H' → Rep g α' S H' → E α' H' x S → E' α' H' x S) : Wp g r α H P' E' := by
  cases r with
  | ok b S => exact fun α' H' e q => hp α' H' b S e q (h α' H' e q)
  | exc x S => exact fun α' H' e q => he α' H' x S e q (h α' H' e q)
  | stuck => exact h
theorem Wp.imp1 (h : Wp g r α H P E) (hp : ∀ α' H' b S, Ext α H α' H' → Rep g α' S H' → P α' H' b S → P' α' H' b S) : Wp g r α H P' E := h.imp hp fun _ _ _ _ _ _ q => q
theorem Wp.bind {f : β → Store → R γ} {Q : PP γ} (h : Wp g (r.bind f) α H Q E) : Wp g r α H (fun α' H' b S => Wp g (f b S) α' H' Q E) E := by
  cases r with
  | ok b S => exact fun α' H' e _ => Wp.ext (show Wp g (f b S) α H Q E from h) e
  | exc x S => exact h
  | stuck => exact h
theorem Wp.ok {b : β} {S : Store} (h : Wp g (.ok b S) α H P E) (hr : Rep g α S H) : P α H b S := h α H (Ext.refl α H) hr
theorem Wp.okE {b : β} {S : Store} (h : Wp g (.ok b S) α H P E) (e : Ext α H α' H') (hr : Rep g α' S H') : P α' H' b S := h α' H' e hr
theorem Wp.ofO {o : Option β} {S : Store} (h : Wp g (ofO o S) α H P E) : ∃ b, o = some b ∧ Wp g (.ok b S) α H P E := by
  cases o with
  | none => exact h.elim
  | some b => exact ⟨b, rfl, h⟩
end
end L3
set_option maxRecDepth 100000
/-! L3Rule: rules that the kit's list lacks: extend by a tuple, len(set(ints)), setdefault with tuple keys. -/
namespace L3
open PySem PySem.Spec PyProof.Rows L2
section
open PySem.AutoSeq1 PySem.MeetsSeq PySem.MeetsSeq2 PySem.MeetsSeq3 PySem.SeqAt
theorem ext_lt (l : Addr) (items : Array Value) (n : Nat) (b : Addr) (items2 : Array Value) (n2 : Nat) (dd : Option Addr) (sl : Array (Option Value)) (hs0 : ¬(!items.isEmpty && Builtin.List.listTooLong (items.size + items2.size)) = true) (hs1 : items.size ≤ sizeLine) (hs2 : items.size + items2.size ≤ sizeLine + 1) :
    Meets (Builtin.«list.extend» ⟨[.ref l, .ref b], []⟩) (fun _ R s => s.heap.get? l = some { cls := .type "list", dict := none, data := .seq items n, slots := #[] } ∧ s.heap.get? b = some { cls := .type "tuple", dict := dd, data := .seq items2 n2, slots := sl } ∧
      R (.ok (.ret Value.none)) { s with heap := s.heap.update l (Obj.mapSeq fun x => x ++ items2), toks := s.toks }) :=
  .of_wp fun prog w A R s h => by
    obtain ⟨hp, g, d, tk, os⟩ := s
    obtain ⟨hl, hb, h⟩ := h
    have f3 := AutoSeq1.sub_list_list
    have f5 := AutoSeq1.sub_list_tuple
    have f2 := AutoSeq1.sub_tuple_tuple
    have f4 := AutoSeq1.sub_tuple_list
    have hz' : (items ++ items2).size ≤ sizeLine + 1 := by rw [Array.size_append]; exact hs2
    wp_walk using (wpAny_updateSeq hl rfl (hz := hs1) (_hz' := hz')), wpAny_loadPart' hl, wpAny_loadPart' hb
    exact ⟨_, rfl, h⟩
end
variable {X : Cx}
def rExtT (K : PySem.W.Frag) : V → List V → Hp → VK → Prop := fun x vs H Q => ∃ l b xs zs, x = .ref l ∧ vs = [.ref b] ∧ H l = some (.lst xs) ∧ SqT K H b zs ∧ xs.length + zs.length ≤ sizeLine ∧ Q .non (upd H l (.lst (xs ++ zs)))
theorem mt_extT : MtR X "list.extend" (rExtT X.K) := by
  intro pins s σ H x vs v us Q I rx rv h
  obtain ⟨l, b, xs, zs, rfl, rfl, hH, hB, hz, q⟩ := h
  cases rx
  obtain ⟨u, rfl, ru⟩ := rv.one
  cases ru
  obtain ⟨z, its, n, r, hl, e⟩ := I.lstM hH
  obtain ⟨its2, r2, p2, hz2⟩ := I.tuple hB
  obtain ⟨⟨oc, od, dt, sl⟩, e2, c2, n2, d2⟩ := id p2
  dsimp only at c2 d2
  subst c2 d2
  have hl2 := r2.length
  have hsz : its.toArray.size + its2.toArray.size ≤ sizeLine := by rw [List.size_toArray, List.size_toArray]; omega
  have hlong : ¬ (!its.toArray.isEmpty && Builtin.List.listTooLong (its.toArray.size + its2.toArray.size)) = true := by
    rw [notLongL hsz, Bool.and_false]
    exact Bool.false_ne_true
  refine call_meets F.slot_list_extend ⟨_, e, rfl⟩ F.entry_list_extend (F.args_list_extend_2 _ _)
    (ext_lt l its.toArray n b its2.toArray n2 od sl hlong (by rw [List.size_toArray]; omega) (by omega)) ⟨e, e2, ?_⟩
  refine ⟨.non, _, I.lset (its' := its ++ its2) hH e (by simp) (r.append r2) ?_, rfl, q⟩
  rw [List.length_append]
  omega
/-- len(set(l)), l a list of ints -/
def tLenSetN (K : PySem.W.Frag) (ta : TE) : TE := fun σ H Q => ta σ H fun x H1 => ∃ (l : Addr) (ns : List Int), x = .ref l ∧ SqL K H1 l (ns.map V.int) ∧ ns.length ≤ 4000 ∧ Q (.int ((PyProof.Rows.firstMet (ns.getD · 0) ns.length).length : Nat)) H1
theorem pe_lenSetN {X : Cx} {a : Expr} {ta : TE} {p p2 q pos : Pos} (hg : Gl X "len") (hm : X.mg "len" = none) (hg2 : Gl X "set") (hm2 : X.mg "set" = none) (ha : PE X a ta) (hc : X.calm = true)
    (na : starEach [a] X.env = (false, eval a X.env) :: starEach [] X.env) : PE X (.Call (.Name "len" p) [.Call (.Name "set" p2) [a] [] q] [] pos) (tLenSetN X.K ta) := by
  refine ⟨fun pins s σ H Q I h => ?_⟩
  refine Call_ (ld_blt I hg hm boot_len ?_)
  refine PyProof.Rows.callWith_builtin1 (PyProof.Rows.args_cons ?_ rfl) rfl rfl
  refine Call_ (ld_blt I hg2 hm2 boot_set ?_)
  refine PyProof.Rows.callWith_type1 (PyProof.Rows.args_cons (thn (ha.run pins s σ H _ I h) fun v s1 ⟨x, H1, I1, r1, q1⟩ => PyProof.Rows.args_nil ?_) na) na rfl
  obtain ⟨l, ns, rfl, hq, hl, q1⟩ := q1
  cases r1
  obtain ⟨its, r, pl, hz⟩ := I1.list hq
  have hlen : its.toArray.size = ns.length := by rw [List.size_toArray, ← r.length, List.length_map]
  refine call_set_list (I1.ok.hd hc) pl.isList (by simpa using RZ.intsAre_vals r) (by rw [hlen]; unfold scanBound; omega) fun h' tk hS hk => ?_
  refine PyProof.Rows.args_nil ?_
  rw [hlen] at hS
  obtain ⟨o, es, ep, t, ho, hex, hd, _, _, _, hf, hn⟩ := hS
  have I2 : Inv X pins σ H1 { s1 with heap := h', toks := tk } := I1.kept fun b o e => hk b o (Heap.lt_size e) e
  have hle := PyProof.Rows.firstMet_length_le (ns.getD · 0) ns.length
  exact call_len_set ho hex hd hf (by rw [hn] <;> omega) ⟨.int (PyProof.Rows.firstMet (ns.getD · 0) ns.length).length, H1, I2.tok _, ⟨_, by rw [hn]⟩, q1⟩
/-- the different ones, in the order of their first places -/
def dedup (ns : List Int) : List Int := ns.foldl PyProof.Rows.step_dedup []
theorem firstMet_list (ns : List Int) : PyProof.Rows.firstMet (ns.getD · 0) ns.length = dedup ns := by
  unfold PyProof.Rows.firstMet dedup
  congr 1
  refine List.ext_getElem (by simp) fun i h1 h2 => ?_
  simp [h2]
/-! ### setdefault with a tuple for a key -/
section
variable {pins : List (Addr × Obj)} {σ : L2.St} {H : Hp} {s : Shared} {a b : Addr} {r : Value} {d : V} {k : List Key} {A : Around} {E : Value → Shared → Prop}
theorem dt_setd {kvs : List (List Key × V)} {Q : Value → Shared → Prop} (hu : A.units + 1 < cLine) (I : Inv X pins σ H s) (e : H a = some (.dT kvs)) (eb : H b = some (.tup (k.map kV))) (rd : RelV d r) (hl : kvs.length < sizeLine)
    (h1 : ∀ v, valV kvs k = some v → ∀ (w' : Value) (s' : Shared), Inv X pins σ H s' → RelV v w' → Q w' s') (h2 : valV kvs k = none → ∀ (w' : Value) (s' : Shared), Inv X pins σ (upd H a (.dT (putK kvs k d))) s' → RelV d w' → Q w' s') :
    wpAny (model X.prog X.w) A (call (.builtin "dict.setdefault") [.ref a, .ref b, r]) Q E s := by
  obtain ⟨z, hd, xs, rel, dd⟩ := dt_of I.hok e
  have hz : xs.length ≤ sizeLine := by rw [← Paired.length rel]; exact z
  have q := rel.val k
  refine call_setdefault_heap (tupleKind_room_in1 hu) (key_of I.hok eb) hd dd (fun p hp => ?_) (fun hn h' dd' hs => ?_) hz
  · rw [hp] at q
    cases q0 : valV kvs k with
    | none =>
      rw [q0] at q
      exact (show False from q).elim
    | some v0 =>
      rw [q0] at q
      exact h1 v0 q0 _ _ (I.tok _) q
  · rw [hn] at q
    cases q0 : valV kvs k with
    | some v0 =>
      rw [q0] at q
      exact (show False from q).elim
    | none =>
      have hl2 : (putK kvs k d).length ≤ sizeLine := by
        have := length_putK kvs k d
        omega
      refine h2 q0 _ _ ?_ rd
      obtain ⟨q, es, ep, hq, h2, h3, h4, _, h5⟩ := dd'
      refine d_write (t' := s.toks + _) I (by rw [e]; exact True.intro) hs ⟨q, hq⟩ ⟨hl2, hd, _, (rel.put k eb rd).keeps fun c ys ec => ?_, q, es, ep, hq, h2, h3, h4, h5⟩
      rw [upd_ne (ne_of ec e (fun z => nomatch z))]
      exact ec
end
/-- d.setdefault(y, z), the keys ints and texts, or tuples of these -/
def tDSetA (td ty tx : TE) : TE := fun σ H Q => td σ H fun x H1 => ∃ a, x = .ref a ∧ IsD H1 a ∧ ty σ H1 fun y H2 => tx σ H2 fun z H3 =>
  (∃ (kvs : List (Key × V)) (k : Key), H3 a = some (.dK kvs) ∧ y = kV k ∧ kvs.length < sizeLine ∧ (∀ v, valV kvs k = some v → Q v H3) ∧ (valV kvs k = none → Q z (upd H3 a (.dK (putK kvs k z))))) ∨
  ∃ (kvs : List (List Key × V)) (k : List Key) (b : Addr), H3 a = some (.dT kvs) ∧ y = .ref b ∧ H3 b = some (.tup (k.map kV)) ∧ kvs.length < sizeLine ∧ (∀ v, valV kvs k = some v → Q v H3) ∧ (valV kvs k = none → Q z (upd H3 a (.dT (putK kvs k z))))
theorem pe_dsetA {o e f : Expr} {td ty tx : TE} {apos cpos : Pos} (hu : X.A.units + 1 < cLine) (ho : PE X o td) (he : PE X e ty) (hf : PE X f tx) (m : M2 X o "setdefault" apos e f cpos) : PE X (.Call (.Attribute o "setdefault" apos) [e, f] [] cpos) (tDSetA td ty tx) := by
  refine ⟨fun pins s σ H Q I h => ?_⟩
  refine wpAny_Call_method m.base m.few m.line PySem.F.plainAttrs_dict PySem.F.slot_dict_setdefault PySem.F.type_dict_setdefault (thn (ho.run pins s σ H _ I h) fun u s1 ⟨x, H1, I1, rx, a, ex, d, q1⟩ => ?_)
  subst ex
  obtain rfl : u = Value.ref a := rx
  obtain ⟨t1, t2, _⟩ := isD_at I1 d
  refine ⟨t1, t2, ?_⟩
  rw [m.trees]
  refine Calls.callWith_builtin rfl (Calls.evalArgs_plain (Calls.spliced_cons (thn (he.run pins s1 σ H1 _ I1 q1) fun iv s2 ⟨y, H2, I2, ry, q2⟩ =>
    Calls.spliced_cons (thn (hf.run pins s2 σ H2 _ I2 q2) fun fv s3 ⟨z, H3, I3, rz, q3⟩ => Calls.spliced_nil ?_))))
  rcases q3 with ⟨kvs, k, ea, ey, hl, q3, q4⟩ | ⟨kvs, k, b, ea, ey, eb, hl, q3, q4⟩
  · subst ey
    exact d_setd I3 ea ry rz hl (fun v hv w' s4 I4 rw' => ⟨v, _, I4, rw', q3 v hv⟩) fun hn w' s4 I4 rw' => ⟨z, _, I4, rw', q4 hn⟩
  · subst ey
    cases (show iv = Value.ref b from ry)
    exact dt_setd hu I3 ea eb rz hl (fun v hv w' s4 I4 rw' => ⟨v, _, I4, rw', q3 v hv⟩) fun hn w' s4 I4 rw' => ⟨z, _, I4, rw', q4 hn⟩
/-! ### enumerate(tuple) -/
section
open PySem.Sem (wp)
open AutoSeq1 (wpAny_loadPart')
theorem meets_enum_tup (l : Addr) (items : Array Value) (n : Nat) (dct : Option Addr) (sl : Array (Option Value)) :
    Meets (Builtin.«enumerate.__new__» ⟨[.type "enumerate", .ref l], []⟩) (fun _ R s => s.heap.get? l = some { cls := .type "tuple", dict := dct, data := .seq items n, slots := sl } ∧
      R (.ok (.ret (.ref (s.heap.push { cls := .type "tuple_iterator", data := .fields #[.ref l, .int 0 0] }).objs.size)))
        { s with heap := (s.heap.push { cls := .type "tuple_iterator", data := .fields #[.ref l, .int 0 0] }).push { cls := .type "enumerate", data := .fields #[.none, .bool false, .ref s.heap.objs.size, rawInt 0, .none, .none] } }) :=
  .of_wp fun prog w A R s h => by
    obtain ⟨hp, g, d, tk, os⟩ := s; obtain ⟨hl, h⟩ := h
    have hsub := sub_enumerate
    have hL : Heap.IsTuple (Shared.heap ⟨hp, g, d, tk, os⟩) l items := ⟨_, hl, rfl, n, rfl⟩
    wp_walk using wpAny_loadPart' hl
    refine wpAny_stack_any fun st => wpAny_pure ?_
    split
    · rename_i c _ _ _ _ _
      cases (c == Value.type "enumerate")
      · wp_walk using wpAny_loadPart' hl, wpAny_pyIter_tuple hL
        exact ⟨_, rfl, h⟩
      · wp_walk using wpAny_loadPart' hl, wpAny_pyIter_tuple hL
        exact ⟨_, rfl, h⟩
    · wp_walk using wpAny_loadPart' hl, wpAny_pyIter_tuple hL
      exact ⟨_, rfl, h⟩
variable {prog : Program} {w : World} {A : Around} {E : Value → Shared → Prop} {s : Shared}
theorem call_enum_tup {l : Addr} {items : Array Value} {Q : Value → Shared → Prop} (hL : s.heap.IsTuple l items)
    (h : ∀ h', IsEnum h' (s.heap.objs.size + 1) s.heap.objs.size 0 .none → h'.IsTupleIter s.heap.objs.size l 0 → h'.objs.size = s.heap.objs.size + 2 →
      (∀ b o, s.heap.get? b = some o → h'.get? b = some o) → Q (.ref (s.heap.objs.size + 1)) { s with heap := h' }) :
    wpAny (model prog w) A (call (.type "enumerate") [.ref l]) Q E s := by
  obtain ⟨⟨c, dct, dt, sl⟩, hl, hc, n, hd⟩ := hL
  replace hc : c = .type "tuple" := hc
  replace hd : dt = .seq items n := hd
  subst hc hd
  refine callType_new F.called_enumerate (by decide) (F.typeCall_enumerate_1 _) (F.newCall_enumerate_1 _) (fun obj => F.args_object_init_2 obj _) F.entry_enumerate_new
    (meets_enum_tup l items n dct sl) ⟨hl, ?_⟩
  have hz : (s.heap.push { cls := .type "tuple_iterator", data := .fields #[.ref l, .int 0 0] }).objs.size = s.heap.objs.size + 1 := Heap.size_push ..
  show _ ∧ _
  rw [hz]
  have he : IsEnum ((s.heap.push { cls := .type "tuple_iterator", data := .fields #[.ref l, .int 0 0] }).push
      { cls := .type "enumerate", data := .fields #[.none, .bool false, .ref s.heap.objs.size, rawInt 0, .none, .none] }) (s.heap.objs.size + 1) s.heap.objs.size 0 .none := by
    have := Heap.get?_push_size (s.heap.push { cls := .type "tuple_iterator", data := .fields #[.ref l, .int 0 0] })
      (o := { cls := .type "enumerate", data := .fields #[.none, .bool false, .ref s.heap.objs.size, rawInt 0, .none, .none] }) rfl
    rw [hz] at this; exact this
  refine ⟨⟨_, he, rfl⟩, h _ he ⟨_, Heap.get?_push_of_some _ (Heap.get?_push_size _ rfl), rfl, rfl⟩ (by rw [Heap.size_push, hz]) fun b o x => Heap.get?_push_of_some _ (Heap.get?_push_of_some _ x)⟩
end
section
variable {prog : Program} {w : World} {A : Around} {E : Value → Shared → Prop} {s : Shared}
theorem enum_end_tup {e it l : Addr} {i : Nat} {items : Array Value} {old : Value} {Q : Option Value → Shared → Prop} (hh : A.handled = none)
    (he : IsEnum s.heap e it i old) (hit : s.heap.IsTupleIter it l i) (hl : s.heap.IsTuple l items) (hx : items[i]? = none)
    (hQ : ∀ h', Heap.ExtBut it s.heap h' → Q none { s with heap := h' }) : wpAny (model prog w) A (pyNext (.ref e)) Q E s := by
  have hT : s.TypeIs (.ref e) "enumerate" := ⟨_, he, rfl⟩
  unfold pyNext
  refine wpAny_bind (wpAny_attempt (wpAny_callSpecial?_slot (name := Str.ofString "__next__") hT F.slot_enumerate_next
    (wpAny_call_entry F.slot_enumerate_next hT F.entry_enumerate_next ?_ (F.args_enumerate_next_1 _))))
  show wpAny _ _ (field (.ref e) 2 >>= _) _ _ _
  refine wpAny_bind (wpAny_field he rfl (x := .ref it) rfl ?_)
  refine wpAny_bind (wpAny_nextOf_tuple_end hh hit hl hx fun h' x he' hx' => ?_)
  obtain ⟨o, ho, hc⟩ := hx'
  refine wpAny_bind (wpAny_isInstance (T := "StopIteration") (b := true) ⟨o, ho, hc⟩ isSubtype_stop ?_)
  exact wpAny_pure (hQ _ he')
end
def IteT (K : PySem.W.Frag) (a : Addr) : It :=
  ⟨fun i H => ∃ (xs : List V) (x : V), SqT K H a xs ∧ xs[i]? = some x, fun i H v H' => ∃ T x, v = .ref T ∧ H T = none ∧ H' = upd H T (.tup [.int (i : Nat), x]) ∧ ∀ xs, SqT K H a xs → xs[i]? = some x, fun i H => ∃ xs : List V, SqT K H a xs ∧ xs.length ≤ i⟩
theorem turn_enumT {P : Program} {w : World} {K : PySem.W.Frag} {elts : List Expr} {kk : Nat} {tpos : Pos} (a e it : Addr) :
    Turn P w K (.Tuple elts kk tpos) (IteT K a) [e, it] e (fun i h => (∃ old, IsEnum h e it ((i : Nat) : Int) old) ∧ h.IsTupleIter it a i ∧ e ≠ it ∧ a ≠ it ∧ a ≠ e) where
  mem := by simp
  obj := fun i h st b hb => by
    obtain ⟨⟨old, he⟩, ⟨o, ho, hc, hd⟩, _⟩ := st
    have e' : b = e ∨ b = it := by simpa using hb
    rcases e' with z | z
    · rw [z]; exact ⟨_, he, fun v q => nomatch q⟩
    · rw [z]; exact ⟨o, ho, fun v q => by rw [hd] at q; cases q⟩
  keep := fun i h h' st k => let ⟨⟨old, he⟩, hi, hne⟩ := st; ⟨⟨old, k e (by simp) _ he⟩, hi.at fun o q => k it (by simp) o q, hne⟩
  item := by
    intro X hP hw hK hc i pins s σ H E I hf st hg
    subst hP hw hK
    obtain ⟨⟨old, he⟩, hit, hne, na, nb⟩ := st
    obtain ⟨xs, x, hq, hx⟩ := hg
    obtain ⟨its, rv, p, hz⟩ := I.tuple hq
    obtain ⟨u, hu, ru⟩ := rv.get hx
    have hel : e < s.heap.objs.size := Heap.lt_size he
    have hil : it < s.heap.objs.size := by obtain ⟨_, q, _⟩ := hit; exact Heap.lt_size q
    have hlt : i < its.toArray.size := by simpa using (List.getElem?_eq_some_iff.mp hu).1
    have hh : X.A.in1.handled = none := I.ok.hd hc
    refine wpAny_pyNext_enum_itemD (Draws.tuple (prog := X.prog) (w := X.w) hh it a na its.toArray) he ⟨hit, p⟩ hlt hne (by simp [hne, Ne.symm nb]) fun x2 h' tk hP ho hst' hT hsz hk => ?_
    have ex : x2 = u := by
      have h1 : its[i]? = some x2 := by simpa using hP
      rw [hu] at h1
      cases h1
      rfl
    subst ex
    refine ⟨_, rfl, wpAny_letOwnedTupleGo_enum (s := { s with heap := h', toks := tk + 1 }) ho fun h'' he' sb => ?_⟩
    have hT2 : h''.get? s.heap.objs.size = some { cls := .type "tuple", data := .seq #[.int i tk, x2] } := (sb.2 _ (Nat.ne_of_gt hel)).trans hT
    have new : ObjOk X.prog X.w (upd H s.heap.objs.size (.tup [.int (i : Nat), x])) h'' s.heap.objs.size (.tup [.int (i : Nat), x]) :=
      ⟨by show 2 ≤ sizeLine; decide, [.int i tk, x2], .cons ⟨_, rfl⟩ (.cons ru .nil), ⟨_, hT2, rfl, _, rfl⟩⟩
    have I1 : Inv X pins σ (upd H s.heap.objs.size (.tup [.int (i : Nat), x])) { s with heap := h'', toks := tk + 1 } :=
      I.turnedNew (ch := [e, it]) (fun b ob hb q => (sb.2 b (fun z => hb (by simp [z]))).trans (hk b ob (fun z => hb (by simp [z])) (fun z => hb (by simp [z])) q)) hf (Nat.le_refl _) new
    refine ⟨.ref s.heap.objs.size, _, I1, rfl, ⟨_, x, rfl, I.hok.fresh (Nat.le_refl _), rfl, fun ys hy => by rw [I.tuple_inj hy hq]; exact hx⟩, ⟨⟨x2, ?_⟩, hst'.1.at fun o q => (sb.2 it (Ne.symm hne)).trans q, hne, na, nb⟩, fun b hb => ?_⟩
    · have e1 : ((i + 1 : Nat) : Int) = (i : Int) + 1 := by omega
      rw [e1]; exact he'
    · have hb' : b < s.heap.objs.size := by
        have e' : b = e ∨ b = it := by simpa using hb
        rcases e' with z | z
        · rw [z]; exact hel
        · rw [z]; exact hil
      rw [upd_ne (Nat.ne_of_lt hb')]
      exact (hf b hb).1
  done := by
    intro X hP hw hK hc i pins s σ H E I hf st hg
    subst hP hw hK
    obtain ⟨⟨old, he⟩, hit, hne, na, nb⟩ := st
    obtain ⟨xs, hq, hx⟩ := hg
    obtain ⟨its, rv, p, hz⟩ := I.tuple hq
    obtain ⟨f0, f1, f2, f3, f4, f5⟩ := hf it (by simp)
    have hl := rv.length
    exact enum_end_tup (I.ok.hd hc) he hit p (by simp; omega) fun h' eb => ⟨rfl, I.turned (t' := s.toks) (fun b o hb q => eb b o hb q) f0 f1 f3 f4 f5⟩
  self := fun A i s Q E st h => let ⟨⟨_, he⟩, _⟩ := st; wpAny_pyIter_enum he h
def iEnumT (K : PySem.W.Frag) (ta : TA) : TI := fun σ H R => ta σ H fun vs H1 => ∃ a xs, vs = [.ref a] ∧ SqT K H1 a xs ∧ R (IteT K a) H1
theorem pi_enumT {X : Cx} {e : Expr} {ta : TA} {p pos tpos : Pos} {elts : List Expr} {kk : Nat} (hg : Gl X "enumerate") (hm : X.mg "enumerate" = none) (ha : PA X [e] ta) (hs : starEach [e] X.env = [(false, eval e X.env)]) :
    PI X (.Tuple elts kk tpos) (.Call (.Name "enumerate" p) [e] [] pos) (iEnumT X.K ta) := by
  refine ⟨fun pins s σ H R I h => ?_⟩
  refine Call_ (ld_blt I hg hm boot_enumerate (PyProof.Rows.callWith_type1 (thn (ha.run pos pins s σ H _ I h) fun us s1 ⟨vs, H1, I1, r1, q1⟩ => ?_) hs rfl))
  obtain ⟨a, xs, ex, hq, q⟩ := q1
  subst ex
  cases r1 with
  | cons r rr =>
    cases rr
    cases r
    obtain ⟨its, rv, p', hz⟩ := I1.tuple hq
    have hal : a < s1.heap.objs.size := by obtain ⟨_, e0, _⟩ := p'; exact Heap.lt_size e0
    refine call_enum_tup p' fun h' he hit hsz hk => wpAny_pyIter_enum he ?_
    have I2 : Inv X pins σ H1 { s1 with heap := h' } := I1.kept (t' := s1.toks) hk
    refine ⟨s1.heap.objs.size + 1, [s1.heap.objs.size + 1, s1.heap.objs.size], _, _, H1, rfl, I2, turn_enumT a (s1.heap.objs.size + 1) s1.heap.objs.size, ⟨⟨.none, he⟩, hit, Nat.succ_ne_self _, Nat.ne_of_lt hal, Nat.ne_of_lt (Nat.lt_succ_of_lt hal)⟩, fun b hb => ?_, q⟩
    have e' : b = s1.heap.objs.size + 1 ∨ b = s1.heap.objs.size := by simpa using hb
    have hle : s1.heap.objs.size ≤ b := by
      rcases e' with z | z
      · rw [z]; exact Nat.le_add_right _ _
      · rw [z]; exact Nat.le_refl _
    exact I1.fpOk hle (I1.hok.fresh hle)
end L3
set_option maxRecDepth 100000
/-! L3RuleZ: x[::-1] of tuples. -/
namespace L3
open PySem PySem.Spec PyProof.Rows L2
section
variable {prog : Program} {w : World} {A : Around} {E : Value → Shared → Prop} {s : Shared}
theorem fm_congr {α β : Type} {f g : α → Option β} : ∀ {l : List α}, (∀ x ∈ l, f x = g x) → l.filterMap f = l.filterMap g
  | [], _ => rfl
  | a :: r, h => by
    rw [List.filterMap_cons, List.filterMap_cons, h a List.mem_cons_self, fm_congr fun x hx => h x (List.mem_cons_of_mem _ hx)]
theorem revPick {α : Type} (xs : Array α) : ((List.range xs.size).filterMap fun (k : Nat) => xs[(((xs.size : Int) - 1) + (k : Int) * (-1)).toNat]?).toArray = xs.toList.reverse.toArray := by
  have e : ∀ k ∈ List.range xs.size, (fun (k : Nat) => xs[(((xs.size : Int) - 1) + (k : Int) * (-1)).toNat]?) k = (fun (k : Nat) => xs[xs.size - 1 - k]?) k := fun k hk => by
    have := List.mem_range.mp hk
    have : (((xs.size : Int) - 1) + (k : Int) * (-1)).toNat = xs.size - 1 - k := by omega
    simp only [this]
  rw [fm_congr e]
  have h2 : (List.range xs.size).filterMap (fun k => xs[xs.size - 1 - k]?) = ((List.range xs.size).map fun k => xs.size - 1 - k).filterMap (xs[·]?) := by
    rw [List.filterMap_map]
    rfl
  rw [h2, PySem.W.krv_range, List.filterMap_reverse, PySem.W.krv_all]
theorem sliceApplied_rev {sl : Addr} {vs : Value} {n : Nat} {Q : Int × Int × Nat → Shared → Prop} (hs : s.heap.IsSliceOf sl .none .none vs) (ps : IsPart vs (some (-1))) (h : Q ((n : Int) - 1, -1, n) s) :
    wpAny (model prog w) A (Builtin.Slice.sliceApplied (.ref sl) (pure (n : Int))) Q E s := by
  obtain ⟨os, hos, hcs, hds⟩ := id hs
  unfold Builtin.Slice.sliceApplied Builtin.Slice.sliceFields
  refine wpAny_bind (wpAny_bind (wpAny_field hos hds (x := .none) rfl (wpAny_bind (wpAny_field hos hds (x := .none) rfl (wpAny_bind (wpAny_field hos hds (x := vs) rfl (wpAny_pure ?_)))))))
  refine wpAny_bind (HT.slicePart_ ps ?_)
  show wpAny _ _ (if ((-1 : Int) == 0) = true then _ else _) _ _ s
  rw [if_neg (by decide)]
  refine wpAny_bind (HT.slicePart_ .none (wpAny_bind (HT.slicePart_ .none (wpAny_bind (wpAny_pure ?_)))))
  show wpAny _ _ (match Builtin.Slice.sliceAdjust none none (-1) (n : Int) with | (lo, hi) => pure (lo, (-1 : Int), Builtin.Slice.slicePlaces lo hi (-1))) _ _ s
  have e1 : Builtin.Slice.sliceAdjust none none (-1) (n : Int) = ((n : Int) - 1, -1) := rfl
  rw [e1]
  show wpAny _ _ (pure ((n : Int) - 1, (-1 : Int), Builtin.Slice.slicePlaces ((n : Int) - 1) (-1) (-1))) _ _ s
  have e2 : Builtin.Slice.slicePlaces ((n : Int) - 1) (-1) (-1) = n := by
    unfold Builtin.Slice.slicePlaces
    have h1 : ¬ ((-1 : Int) > 0) := by decide
    simp only [h1, if_false]
    have h2 : (-(-1 : Int)) = 1 := by decide
    rw [h2, Int.ediv_one]
    split <;> omega
  rw [e2]
  exact wpAny_pure h
theorem getItem_tuple_rev {t sl : Addr} {items : Array Value} {vs : Value} {Q : Value → Shared → Prop} (ht : IsTup s.heap t items) (hs : s.heap.IsSliceOf sl .none .none vs) (ps : IsPart vs (some (-1)))
    (h : Q (.ref s.heap.objs.size) { s with heap := s.heap.push { cls := .type "tuple", data := .seq items.toList.reverse.toArray } }) (hsz : items.size ≤ sizeLine) : wpAny (model prog w) A (getItem (.ref t) (.ref sl)) Q E s := by
  have htake : sizeOk (.seq items.toList.reverse.toArray) := by
    show items.toList.reverse.toArray.size ≤ sizeLine
    rw [List.size_toArray, List.length_reverse, Array.length_toList]
    exact hsz
  obtain ⟨os, hos, hcs, hds⟩ := id hs
  have hTs : s.TypeIs (.ref sl) "slice" := ⟨os, hos, hcs⟩
  unfold getItem
  try with_reducible refine wpAny_holding ?_
  first | refine wpAny_bind (wpAny_pure ?_) | skip
  refine wpAny_bind (wpAny_sequenceKey ht.typeIs (by decide) ?_)
  refine wpAny_bind (wpAny_callSpecial?_slot (name := Str.ofString "__getitem__") ht.typeIs PyProof.Rows.slot_tuple_getitem
    (wpAny_call_entry PyProof.Rows.slot_tuple_getitem ht.typeIs entry_tuple_getitem ?_ (args_tuple_getitem _ _)))
  show wpAny _ _ (Builtin.Tuple.tupleItemsOf (.ref t) >>= _) _ _ s
  refine wpAny_bind (tupleItemsOf_ ht ?_)
  refine wpAny_bind (wpAny_typeOf hTs ?_)
  rw [if_pos (by decide)]
  refine wpAny_bind (sliceApplied_rev hs ps ?_)
  have hno : ¬ (((items.size : Int) - 1 == 0 && (-1 : Int) == 1 && items.size == items.size) = true) := by
    intro q
    rw [Bool.and_eq_true, Bool.and_eq_true] at q
    exact absurd q.1.2 (by decide)
  show wpAny _ _ (if ((items.size : Int) - 1 == 0 && (-1 : Int) == 1 && items.size == items.size) = true then _ else _) _ _ s
  rw [if_neg hno, revPick]
  first
    | exact wpAny_bind (m := Builtin.Tuple.tupleExact _) (wpAny_newObj_type (wpAny_pure ⟨_, rfl, wpAny_pure h⟩) htake)
    | exact wpAny_bind (m := Builtin.Tuple.tupleExact _) (wpAny_newObj_type (wpAny_bind (wpAny_pure (wpAny_pure ⟨_, rfl, wpAny_pure h⟩))) htake)
    | exact wpAny_bind (wpAny_bind (m := Builtin.Tuple.tupleExact _) (wpAny_newObj_type (wpAny_pure (wpAny_pure ⟨_, rfl, wpAny_pure h⟩)) htake))
    | exact wpAny_bind (wpAny_bind (m := Builtin.Tuple.tupleExact _) (wpAny_newObj_type (wpAny_pure ⟨_, rfl, wpAny_pure h⟩) htake))
end
/-- x[::-1], a list or a tuple -/
def tRevA (K : PySem.W.Frag) (te : TE) : TE := fun σ H Q => te σ H fun x H1 => ∃ a xs, x = .ref a ∧ ((SqL K H1 a xs ∧ ∀ p, H1 p = none → Q (.ref p) (upd H1 p (.lst xs.reverse))) ∨ (SqT K H1 a xs ∧ ∀ p, H1 p = none → Q (.ref p) (upd H1 p (.tup xs.reverse))))
theorem pe_revA {X : Cx} {e : Expr} {te : TE} {k : Nat} {p1 p2 p3 pos : Pos} (he : PE X e te) : PE X (.Subscript e (.Slice none none (some (.UnaryOp .USub (.Constant (.int 1) k p1) p2)) p3) pos) (tRevA X.K te) := by
  refine ⟨fun pins s σ H Q I h => ?_⟩
  refine Subscript_ (thn (he.run pins s σ H _ I h) fun v s1 ⟨x, H1, I1, r1, q1⟩ => ?_)
  obtain ⟨a, xs, ex, q⟩ := q1
  subst ex
  cases r1
  have hst : PO X (some (.UnaryOp .USub (.Constant (.int 1) k p1) p2)) (tPart (tUn (rU fun i => .int (-i)) (tC (.int 1)))) := po_some (pe_un un_neg pe_int)
  refine wpAny_Slice (thn (po_none.run pins s1 σ H1 (fun o H2 => o = none ∧ H2 = H1) I1 ⟨rfl, rfl⟩) fun vl s2 ⟨l, H2, I2, pl, el, e2⟩ => ?_)
  subst el e2
  refine thn (po_none.run pins s2 σ H2 (fun o H3 => o = none ∧ H3 = H2) I2 ⟨rfl, rfl⟩) fun vu s3 ⟨u, H3, I3, pu, eu, e3⟩ => ?_
  subst eu e3
  refine thn (hst.run pins s3 σ H3 (fun o H4 => o = some (-1) ∧ H4 = H3) I3 ⟨1, rfl, -1, rfl, rfl, rfl⟩) fun vs s4 ⟨o, H4, I4, ps, eo, e4⟩ => ?_
  subst eo e4
  have I5 : Inv X pins σ H4 { s4 with heap := s4.heap.push { cls := .type "slice", data := .fields #[vl, vu, vs] } } := I4.kept (t' := s4.toks) fun b ob q => Heap.get?_push_of_some _ q
  show wpAny (model X.prog X.w) X.A (subscriptTail e (.Slice none none (some (.UnaryOp .USub (.Constant (.int 1) k p1) p2)) p3) (.ref a) (.ref s4.heap.objs.size)) (EP X pins σ Q) X.xe { s4 with heap := s4.heap.push { cls := .type "slice", data := .fields #[vl, vu, vs] } }
  rcases q with ⟨hx, q⟩ | ⟨hx, q⟩
  · obtain ⟨its, r, ht, hz⟩ := I5.list hx
    have hlen := r.length
    refine tail_any (ops := [.ref a, .ref s4.heap.objs.size]) ht.isList.typeIs (PySem.slot_list_getitem.lookup) ?_ (by with_unfolding_all rfl)
    refine wpAny_getItem_list_slice ht.isList (Heap.IsSliceOf.new _ vl vu vs) pl pu ps (by decide) ?_ (by rw [List.size_toArray]; omega)
    rw [PySem.W.krv_pick]
    refine ⟨.ref _, _, I5.laid (t' := s4.toks) (o := .lst xs.reverse) (fun b ob q => Heap.get?_push_of_some _ q) (Nat.le_refl _) ?_, rfl, q _ (I5.hok.fresh (Nat.le_refl _))⟩
    exact ⟨by rw [List.length_reverse]; exact hz, _, 0, r.reverse, Heap.get?_push_size _ rfl⟩
  · obtain ⟨its, r, ht, hz⟩ := I5.tuple hx
    have hlen := r.length
    cases pl
    cases pu
    refine tail_any (ops := [.ref a, .ref s4.heap.objs.size]) ht.typeIs (PyProof.Rows.slot_tuple_getitem.lookup) ?_ (by with_unfolding_all rfl)
    refine getItem_tuple_rev ht (Heap.IsSliceOf.new _ .none .none vs) ps ?_ (by rw [List.size_toArray]; omega)
    refine ⟨.ref _, _, I5.laid (t' := s4.toks) (o := .tup xs.reverse) (fun b ob q => Heap.get?_push_of_some _ q) (Nat.le_refl _) ?_, rfl, q _ (I5.hok.fresh (Nat.le_refl _))⟩
    exact ⟨by rw [List.length_reverse]; exact hz, _, r.reverse, IsTup.new _ _⟩
end L3
set_option maxRecDepth 100000
/-! L3RuleY: list(zip(t, u)), of tuples of one length. -/
namespace L3
open PySem PySem.Spec PyProof.Rows L2
open PySem.Sem (wp)
theorem zip_no_len : typeLookup (.type "zip") "__len__" = pure none := by rw [typeLookup_type, builtinLookup_eq_fast]; kernel_rfl
theorem zip_no_hint : typeLookup (.type "zip") "__length_hint__" = pure none := by rw [typeLookup_type, builtinLookup_eq_fast]; kernel_rfl
section
variable {prog : Program} {w : World} {A : Around} {E : Value → Shared → Prop} {s : Shared}
theorem wpAny_alive {M : Model} {a : Addr} {o : Obj} {Q : Option Obj → Shared → Prop} (ho : s.heap.get? a = some o) (h : Q (some o) s) : wpAny M A (loadIfAlive a) Q E s := by
  have h2 : Q (s.heap.get? a) s := by rw [ho]; exact h
  exact fun Γ p _ => h2
/-- the zip's object, its pair handed out -/
abbrev IsZip2 (h : Heap) (z TI TO T : Addr) (b : Bool) : Prop := h.get? z = some { cls := .type "zip", dict := none, data := .fields #[rawInt T, .bool b, .bool false, .ref TI, .ref TO], slots := #[] }
theorem owned_no {z TI TO T : Addr} {b : Bool} {o : Obj} {Q : Bool → Shared → Prop} (hz : IsZip2 s.heap z TI TO T b) (hT : s.heap.get? T = some o)
    (h : ∀ h', IsZip2 h' z TI TO T true → Heap.SameBut z s.heap h' → Q false { s with heap := h' }) : wpAny (model prog w) A (Builtin.SmallTypes.ownedTupleIsFree (.ref z)) Q E s := by
  unfold Builtin.SmallTypes.ownedTupleIsFree
  refine wpAny_bind (wpAny_field hz rfl (x := rawInt T) rfl ?_)
  show wpAny _ _ (loadIfAlive (Int.toNat (T : Int)) >>= _) _ _ _
  refine wpAny_bind (wpAny_alive (o := o) (by rw [Int.toNat_natCast]; exact hT) ?_)
  rw [if_neg (by simp)]
  refine wpAny_bind (wpAny_field hz rfl (x := .bool b) rfl ?_)
  cases b with
  | true =>
    rw [if_neg (by decide)]
    exact wpAny_pure (h s.heap hz ⟨rfl, fun _ _ => rfl⟩)
  | false =>
    rw [if_pos (by decide)]
    refine wpAny_bind (wpAny_setField_rec hz (by simp) fun h₁ hz₁ hs₁ => ?_)
    exact wpAny_pure (h h₁ hz₁ hs₁)
theorem zip2_next_item {z TI TO i1 i2 l1 l2 T : Addr} {b : Bool} {oT : Obj} {k1 k2 : Nat} {xs ys : Array Value} {x y : Value} {Q : Value → Shared → Prop} (D : ZipApart z TI TO i1 i2 l1 l2)
    (hz : IsZip2 s.heap z TI TO T b) (hT : s.heap.get? T = some oT) (hTI : IsPair s.heap TI (.ref i1) (.ref i2))
    (h1 : s.heap.IsTupleIter i1 l1 k1) (h2 : s.heap.IsTupleIter i2 l2 k2) (hl1 : s.heap.IsTuple l1 xs) (hl2 : s.heap.IsTuple l2 ys) (hx : xs[k1]? = some x) (hy : ys[k2]? = some y)
    (hQ : ∀ h', IsZip2 h' z TI TO T true → h'.IsTupleIter i1 l1 (k1 + 1) → h'.IsTupleIter i2 l2 (k2 + 1) → IsPair h' s.heap.objs.size x y → h'.objs.size = s.heap.objs.size + 1 →
      (∀ c o, c ≠ z → c ≠ i1 → c ≠ i2 → s.heap.get? c = some o → h'.get? c = some o) → Q (.ref s.heap.objs.size) { s with heap := h' }) :
    wpAny (model prog w) A (Builtin.«zip.__next__» ⟨[.ref z], []⟩) (fun fin s' => ∃ v, fin = .done (.ret v) ∧ Q v s') E s := by
  show wpAny _ _ (field (.ref z) 2 >>= _) _ _ _
  refine wpAny_bind (wpAny_field hz rfl (x := .bool false) rfl ?_)
  show wpAny _ _ (field (.ref z) 3 >>= _) _ _ _
  refine wpAny_bind (wpAny_field hz rfl (x := .ref TI) rfl ?_)
  refine wpAny_bind (wpAny_seqItems hTI rfl ?_)
  show wpAny _ _ (Builtin.SmallTypes.ownedTupleIsFree (.ref z) >>= _) _ _ _
  refine wpAny_bind (owned_no hz hT fun h₁ hz₁ hs₁ => ?_)
  rw [if_neg Bool.false_ne_true]
  refine wpAny_bind ?_
  simp only [List.forIn_cons, List.forIn_nil, Array.forIn_toList.symm]
  refine wpAny_bind (wpAny_bind (wpAny_holding ?_))
  show wpAny _ _ (Builtin.SmallTypes.nextOf (.ref i1) >>= _) _ _ _
  refine wpAny_bind (RZ.nextOf_tuple_item (h1.extBut hs₁.extBut D.i1z) (hl1.extBut hs₁.extBut D.l1z) hx fun h₂ h1₂ hs₂ => wpAny_pure ?_)
  refine wpAny_pure ?_
  refine wpAny_bind (wpAny_bind (wpAny_holding ?_))
  show wpAny _ _ (Builtin.SmallTypes.nextOf (.ref i2) >>= _) _ _ _
  refine wpAny_bind (RZ.nextOf_tuple_item ((h2.extBut hs₁.extBut D.i2z).extBut hs₂.extBut D.i12.symm)
    ((hl2.extBut hs₁.extBut D.l2z).extBut hs₂.extBut D.l2i1) hy fun h₄ h2₄ hs₄ => wpAny_pure ?_)
  refine wpAny_pure (wpAny_pure ?_)
  have hsz : h₄.objs.size = s.heap.objs.size := by rw [hs₄.1, hs₂.1, hs₁.1]
  have hz₄ : IsZip2 h₄ z TI TO T true := hs₄.extBut _ _ D.i2z.symm (hs₂.extBut _ _ D.i1z.symm hz₁)
  have hk₄ : ∀ c o, c ≠ z → c ≠ i1 → c ≠ i2 → s.heap.get? c = some o → h₄.get? c = some o := fun c o c1 c3 c4 e => hs₄.extBut _ _ c4 (hs₂.extBut _ _ c3 (hs₁.extBut _ _ c1 e))
  have h1₄ : h₄.IsTupleIter i1 l1 (k1 + 1) := h1₂.extBut hs₄.extBut D.i12
  refine wpAny_bind (wpAny_newTuple (hsz := (by show (2 : Nat) ≤ sizeLine; rw [sizeLine_eq]; decide)) ?_)
  refine wpAny_pure ⟨_, rfl, ?_⟩
  show Q (.ref h₄.objs.size) _
  rw [hsz]
  have hp : IsPair (h₄.push { cls := .type "tuple", data := .seq #[x, y] }) h₄.objs.size x y := Heap.get?_push_size _ rfl
  rw [hsz] at hp
  exact hQ _ (Heap.get?_push_of_some _ hz₄) (h1₄.at fun o e => Heap.get?_push_of_some _ e) (h2₄.at fun o e => Heap.get?_push_of_some _ e) hp (by rw [Heap.size_push, hsz]) fun c o c1 c3 c4 e => Heap.get?_push_of_some _ (hk₄ c o c1 c3 c4 e)
theorem zip2_next_end {z TI TO i1 i2 l1 l2 T : Addr} {b : Bool} {oT : Obj} {k1 : Nat} {xs : Array Value} {Q : Fin → Shared → Prop} (hh : A.handled = none) (D : ZipApart z TI TO i1 i2 l1 l2)
    (hz : IsZip2 s.heap z TI TO T b) (hT : s.heap.get? T = some oT) (hTI : IsPair s.heap TI (.ref i1) (.ref i2))
    (h1 : s.heap.IsTupleIter i1 l1 k1) (hl1 : s.heap.IsTuple l1 xs) (hx : xs[k1]? = none)
    (hE : ∀ h' e, (∀ c o, c ≠ z → c ≠ i1 → c ≠ i2 → s.heap.get? c = some o → h'.get? c = some o) → (∃ o, h'.get? e = some o ∧ o.cls = .type "StopIteration") → E (.ref e) { s with heap := h' }) :
    wpAny (model prog w) A (Builtin.«zip.__next__» ⟨[.ref z], []⟩) Q E s := by
  show wpAny _ _ (field (.ref z) 2 >>= _) _ _ _
  refine wpAny_bind (wpAny_field hz rfl (x := .bool false) rfl ?_)
  show wpAny _ _ (field (.ref z) 3 >>= _) _ _ _
  refine wpAny_bind (wpAny_field hz rfl (x := .ref TI) rfl ?_)
  refine wpAny_bind (wpAny_seqItems hTI rfl ?_)
  show wpAny _ _ (Builtin.SmallTypes.ownedTupleIsFree (.ref z) >>= _) _ _ _
  refine wpAny_bind (owned_no hz hT fun h₁ hz₁ hs₁ => ?_)
  rw [if_neg Bool.false_ne_true]
  refine wpAny_bind ?_
  simp only [List.forIn_cons, List.forIn_nil, Array.forIn_toList.symm]
  refine wpAny_bind (wpAny_bind (wpAny_holding ?_))
  show wpAny _ _ (Builtin.SmallTypes.nextOf (.ref i1) >>= _) _ _ _
  exact wpAny_bind (RZ.nextOf_tuple_end hh (h1.extBut hs₁.extBut D.i1z) (hl1.extBut hs₁.extBut D.l1z) hx fun h₂ e hs₂ he => hE h₂ e (fun c o c1 c3 _ x => hs₂ _ _ c3 (hs₁.extBut _ _ c1 x)) he)
theorem pyNext_zip2_item {z TI TO i1 i2 l1 l2 T : Addr} {b : Bool} {oT : Obj} {k1 k2 : Nat} {xs ys : Array Value} {x y : Value} {Q : Option Value → Shared → Prop} (D : ZipApart z TI TO i1 i2 l1 l2)
    (hz : IsZip2 s.heap z TI TO T b) (hT : s.heap.get? T = some oT) (hTI : IsPair s.heap TI (.ref i1) (.ref i2))
    (h1 : s.heap.IsTupleIter i1 l1 k1) (h2 : s.heap.IsTupleIter i2 l2 k2) (hl1 : s.heap.IsTuple l1 xs) (hl2 : s.heap.IsTuple l2 ys) (hx : xs[k1]? = some x) (hy : ys[k2]? = some y)
    (hQ : ∀ h', IsZip2 h' z TI TO T true → h'.IsTupleIter i1 l1 (k1 + 1) → h'.IsTupleIter i2 l2 (k2 + 1) → IsPair h' s.heap.objs.size x y → h'.objs.size = s.heap.objs.size + 1 →
      (∀ c o, c ≠ z → c ≠ i1 → c ≠ i2 → s.heap.get? c = some o → h'.get? c = some o) → Q (some (.ref s.heap.objs.size)) { s with heap := h' }) :
    wpAny (model prog w) A (pyNext (.ref z)) Q E s := by
  have hTy : s.TypeIs (.ref z) "zip" := ⟨_, hz, rfl⟩
  unfold pyNext
  exact wpAny_bind (wpAny_attempt (wpAny_callSpecial?_slot (name := Str.ofString "__next__") hTy F.slot_zip_next
    (wpAny_call_entry F.slot_zip_next hTy F.entry_zip_next
      (zip2_next_item D hz hT hTI h1 h2 hl1 hl2 hx hy fun h' a1 a2 a3 a4 a5 a6 => wpAny_pure (hQ h' a1 a2 a3 a4 a5 a6)) (F.args_zip_next_1 _))))
theorem pyNext_zip2_end {z TI TO i1 i2 l1 l2 T : Addr} {b : Bool} {oT : Obj} {k1 : Nat} {xs : Array Value} {Q : Option Value → Shared → Prop} (hh : A.handled = none) (D : ZipApart z TI TO i1 i2 l1 l2)
    (hz : IsZip2 s.heap z TI TO T b) (hT : s.heap.get? T = some oT) (hTI : IsPair s.heap TI (.ref i1) (.ref i2))
    (h1 : s.heap.IsTupleIter i1 l1 k1) (hl1 : s.heap.IsTuple l1 xs) (hx : xs[k1]? = none)
    (hQ : ∀ h', (∀ c o, c ≠ z → c ≠ i1 → c ≠ i2 → s.heap.get? c = some o → h'.get? c = some o) → Q none { s with heap := h' }) : wpAny (model prog w) A (pyNext (.ref z)) Q E s := by
  have hTy : s.TypeIs (.ref z) "zip" := ⟨_, hz, rfl⟩
  unfold pyNext
  refine wpAny_bind (wpAny_attempt (wpAny_callSpecial?_slot (name := Str.ofString "__next__") hTy F.slot_zip_next
    (wpAny_call_entry F.slot_zip_next hTy F.entry_zip_next (zip2_next_end (A := A.in1) hh D hz hT hTI h1 hl1 hx fun h' e hk he => ?_) (F.args_zip_next_1 _))))
  obtain ⟨o, ho, hc⟩ := he
  refine wpAny_bind (wpAny_isInstance (T := "StopIteration") (b := true) ⟨o, ho, hc⟩ isSubtype_stop ?_)
  exact wpAny_pure (hQ _ hk)
/-- the pairs that were drawn: new tuples -/
structure Pairs (h : Heap) (n0 : Nat) (ts : List Nat) (xs ys : Array Value) (i : Nat) : Prop where
  len : ts.length = i
  nd : ts.Nodup
  at_ : ∀ (j t : Nat), ts[j]? = some t → n0 ≤ t ∧ t < h.objs.size ∧ ∃ x y, xs[j]? = some x ∧ ys[j]? = some y ∧ IsPair h t x y
theorem Pairs.push {h h' : Heap} {n0 i : Nat} {ts : List Nat} {xs ys : Array Value} {x y : Value} (P : Pairs h n0 ts xs ys i) (hn : n0 ≤ h.objs.size) (hx : xs[i]? = some x) (hy : ys[i]? = some y) (hp : IsPair h' h.objs.size x y) (hsz : h'.objs.size = h.objs.size + 1)
    (hk : ∀ t ∈ ts, ∀ o, h.get? t = some o → h'.get? t = some o) : Pairs h' n0 (ts ++ [h.objs.size]) xs ys (i + 1) := by
  refine ⟨by simp [P.len], ?_, fun j t hj => ?_⟩
  · rw [List.nodup_append]
    refine ⟨P.nd, by simp, fun a ha b hb => ?_⟩
    simp at hb
    subst hb
    obtain ⟨j, hj, e⟩ := List.mem_iff_getElem.mp ha
    obtain ⟨_, h2, _⟩ := P.at_ j a (by rw [List.getElem?_eq_getElem hj, e])
    omega
  · by_cases hlt : j < ts.length
    · rw [List.getElem?_append_left hlt] at hj
      obtain ⟨q1, q2, u, v, q3, q4, q5⟩ := P.at_ j t hj
      exact ⟨q1, by omega, u, v, q3, q4, hk t (List.mem_of_getElem? hj) _ q5⟩
    · have hl := (List.getElem?_eq_some_iff.mp hj).1
      have ej : j = ts.length := by simp at hl; omega
      subst ej
      simp at hj
      subst hj
      rw [P.len]
      exact ⟨hn, by omega, x, y, hx, hy, hp⟩
theorem zip_loop (hh : A.handled = none) {R : Result → Shared → Prop} {S z TI TO i1 i2 l1 l2 n1 : Nat} {xs ys : Array Value} (D : ZipApart z TI TO i1 i2 l1 l2) (hlen : xs.size = ys.size) (hn : xs.size ≤ sizeLine)
    (hzn : z < n1) (hTIn : TI < n1) (hi1n : i1 < n1) (hi2n : i2 < n1) (hSn : S < n1) (hSz : S ≠ z) (hSTI : S ≠ TI) (hSi1 : S ≠ i1) (hSi2 : S ≠ i2) (hSl1 : S ≠ l1) (hSl2 : S ≠ l2) (res : Value) :
    ∀ (k i : Nat) (s : Shared) (ts : List Nat) (c T : Nat) (b : Bool), xs.size - i = k → i ≤ xs.size → T ∈ ts → IsZip2 s.heap z TI TO T b → IsPair s.heap TI (.ref i1) (.ref i2) → s.heap.IsTupleIter i1 l1 i → s.heap.IsTupleIter i2 l2 i →
      s.heap.IsTuple l1 xs → s.heap.IsTuple l2 ys → n1 ≤ s.heap.objs.size → Pairs s.heap n1 ts xs ys i → s.heap.get? S = some (lstObj (ts.map Value.ref).toArray c) →
      (∀ h' ts' c', (∀ c o, c ≠ S → c ≠ z → c ≠ i1 → c ≠ i2 → s.heap.get? c = some o → h'.get? c = some o) → h'.get? S = some (lstObj (ts'.map Value.ref).toArray c') → Pairs h' n1 ts' xs ys xs.size → R (.ok (.ret res)) { s with heap := h' }) →
      codeAny (model prog w) A (.builtin "list.extend.loop" ⟨[.ref S, .ref z, res], []⟩) R s := by
  intro k
  induction k with
  | zero =>
    intro i s ts c T b hk hi hT hz hTI h1 h2 hl1 hl2 hn1 P hS hR
    have hin : i = xs.size := by omega
    subst hin
    obtain ⟨j, hj, eT⟩ := List.mem_iff_getElem.mp hT
    obtain ⟨p1, p2, u, v, _, _, p5⟩ := P.at_ j T (by rw [List.getElem?_eq_getElem hj, eT])
    refine codeAny_builtin F.entry_extend_loop ?_
    rw [Around.under_plainId F.plain_extend_loop _]
    show wpAny _ A.in1 (pyNext (.ref z) >>= _) _ _ s
    refine wpAny_bind (pyNext_zip2_end (A := A.in1) hh D hz p5 hTI h1 hl1 (by simp) fun h' hk' => ?_)
    have zz : ∀ t : Nat, n1 ≤ t → t ≠ z ∧ t ≠ i1 ∧ t ≠ i2 := fun t ht => ⟨by omega, by omega, by omega⟩
    refine wpAny_pure (hR h' ts c (fun c o _ a b d e => hk' c o a b d e) (hk' S _ hSz hSi1 hSi2 hS) ⟨P.len, P.nd, fun j t hj => ?_⟩)
    obtain ⟨q1, q2, u, v, q3, q4, q5⟩ := P.at_ j t hj
    obtain ⟨z1, z2, z3⟩ := zz t q1
    have q6 := hk' t _ z1 z2 z3 q5
    exact ⟨q1, Heap.lt_size q6, u, v, q3, q4, q6⟩
  | succ k ih =>
    intro i s ts c T b hk hi hT hz hTI h1 h2 hl1 hl2 hn1 P hS hR
    have hlt : i < xs.size := by omega
    obtain ⟨j, hj, eT⟩ := List.mem_iff_getElem.mp hT
    obtain ⟨p1, p2, u, v, _, _, p5⟩ := P.at_ j T (by rw [List.getElem?_eq_getElem hj, eT])
    have hx : xs[i]? = some (xs[i]'hlt) := Array.getElem?_eq_getElem _
    have hy : ys[i]? = some (ys[i]'(by rw [← hlen]; exact hlt)) := Array.getElem?_eq_getElem _
    refine codeAny_builtin F.entry_extend_loop ?_
    rw [Around.under_plainId F.plain_extend_loop _]
    show wpAny _ A.in1 (pyNext (.ref z) >>= _) _ _ s
    refine wpAny_bind (pyNext_zip2_item D hz p5 hTI h1 h2 hl1 hl2 hx hy fun h' a1 a2 a3 a4 a5 a6 => ?_)
    have hS' := a6 S _ hSz hSi1 hSi2 hS
    have zz : ∀ t : Nat, n1 ≤ t → t ≠ z ∧ t ≠ i1 ∧ t ≠ i2 ∧ t ≠ S := fun t ht => ⟨by omega, by omega, by omega, by omega⟩
    have P' : Pairs h' n1 (ts ++ [s.heap.objs.size]) xs ys (i + 1) := P.push hn1 hx hy a4 a5 fun t ht o e => by
      obtain ⟨j2, hj2, e2⟩ := List.mem_iff_getElem.mp ht
      obtain ⟨q1, _⟩ := P.at_ j2 t (by rw [List.getElem?_eq_getElem hj2, e2])
      obtain ⟨z1, z2, z3, _⟩ := zz t q1
      exact a6 t o z1 z2 z3 e
    show wpAny _ A.in1 (updateSeq S (·.push (.ref s.heap.objs.size)) >>= _) _ _ _
    have hsz1 : ((ts.map Value.ref).toArray).size = i := by rw [List.size_toArray, List.length_map, P.len]
    have keepU : ∀ c o, c ≠ S → h'.get? c = some o → (h'.update S (Obj.mapSeq (·.push (Value.ref s.heap.objs.size)))).get? c = some o := fun c o hc e => (Heap.get?_update_other _ _ (Ne.symm hc)).trans e
    have szU : (h'.update S (Obj.mapSeq (·.push (Value.ref s.heap.objs.size)))).objs.size = h'.objs.size := (Heap.SameBut.update h' S _).1
    refine wpAny_bind ?_
    refine wpAny_updateSeq hS' rfl (wpAny_pure ⟨plainId_quiet F.plain_extend_loop _, ?_⟩) (by rw [hsz1]; omega) (by show (((ts.map Value.ref).toArray).push _).size ≤ sizeLine + 1; rw [Array.size_push, hsz1]; omega)
    have eS := Heap.get?_update_self (Obj.mapSeq (·.push (Value.ref s.heap.objs.size))) hS' rfl
    have ea : ((ts ++ [s.heap.objs.size]).map Value.ref).toArray = ((ts.map Value.ref).toArray).push (Value.ref s.heap.objs.size) := by simp
    refine ih (i + 1) { s with heap := h'.update S (Obj.mapSeq (·.push (Value.ref s.heap.objs.size))) } (ts ++ [s.heap.objs.size]) _ T true (by omega) (by omega) (List.mem_append_left _ hT) (keepU _ _ (Ne.symm hSz) a1) (keepU _ _ (Ne.symm hSTI) (a6 TI _ D.TIz D.TIi1 D.TIi2 hTI))
      (a2.at fun o e => keepU _ o (Ne.symm hSi1) e) (a3.at fun o e => keepU _ o (Ne.symm hSi2) e) (hl1.at fun o e => keepU _ o (Ne.symm hSl1) (a6 _ _ D.l1z D.l1i1 D.l1i2 e)) (hl2.at fun o e => keepU _ o (Ne.symm hSl2) (a6 _ _ D.l2z D.l2i1 D.l2i2 e)) (by show n1 ≤ (h'.update S _).objs.size; rw [szU]; omega)
      ⟨P'.len, P'.nd, fun j2 t hj2 => ?_⟩ (by rw [ea]; exact eS) fun h'' ts' c' q1 q2 q3 => hR h'' ts' c' (fun c o b1 b2 b3 b4 e => q1 c o b1 b2 b3 b4 (keepU c o b1 (a6 c o b2 b3 b4 e))) q2 q3
    obtain ⟨q1, q2, u, v, q3, q4, q5⟩ := P'.at_ j2 t hj2
    obtain ⟨z1, z2, z3, z4⟩ := zz t q1
    exact ⟨q1, by show t < (h'.update S _).objs.size; rw [szU]; exact q2, u, v, q3, q4, keepU t _ z4 q5⟩
theorem call_list_zip {n0 : Nat} {z TI TO i1 i2 l1 l2 : Nat} {xs ys : Array Value} {Q : Value → Shared → Prop} (hh : A.handled = none) (D : ZipApart z TI TO i1 i2 l1 l2) (hlen : xs.size = ys.size) (hn : xs.size ≤ sizeLine) (hl1 : l1 < n0) (hl2 : l2 < n0)
    (hz : IsZip s.heap z TI TO .none) (hTI : IsPair s.heap TI (.ref i1) (.ref i2)) (hTO : IsPair s.heap TO .none .none) (h1 : s.heap.IsTupleIter i1 l1 0) (h2 : s.heap.IsTupleIter i2 l2 0) (t1 : s.heap.IsTuple l1 xs) (t2 : s.heap.IsTuple l2 ys)
    (hzn : n0 ≤ z) (hTOn : n0 ≤ TO) (hi1 : n0 ≤ i1) (hi2 : n0 ≤ i2) (hn0 : n0 ≤ s.heap.objs.size)
    (hQ : ∀ (S : Nat) (h' : Heap) (ts : List Nat) (c : Nat), n0 ≤ S → (∀ c o, c < n0 → s.heap.get? c = some o → h'.get? c = some o) → h'.get? S = some (lstObj (ts.map Value.ref).toArray c) → S ∉ ts → Pairs h' n0 ts xs ys xs.size → Q (.ref S) { s with heap := h' }) :
    wpAny (model prog w) A (call (.type "list") [.ref z]) Q E s := by
  have lz : z < s.heap.objs.size := Heap.lt_size hz
  have lTI : TI < s.heap.objs.size := Heap.lt_size hTI
  have lTO : TO < s.heap.objs.size := Heap.lt_size hTO
  have li1 : i1 < s.heap.objs.size := by obtain ⟨_, e, _⟩ := id h1; exact Heap.lt_size e
  have li2 : i2 < s.heap.objs.size := by obtain ⟨_, e, _⟩ := id h2; exact Heap.lt_size e
  have hSz : s.heap.objs.size ≠ z := by omega
  refine callType_codes (Q₁ := fun obj s₁ => obj = .ref s.heap.objs.size ∧ s₁ = { s with heap := s.heap.push { cls := .type "list", data := .seq #[] } }) F.called_list (F.typeCall_list_1 _) F.entry_list_init
    (code_list_new _ ⟨rfl, rfl⟩) fun obj s₁ h₁ => ?_
  obtain ⟨rfl, rfl⟩ := h₁
  have hS : (s.heap.push { cls := .type "list", data := .seq #[] }).get? s.heap.objs.size = some { cls := .type "list", data := .seq #[] } := Heap.get?_push_size _ rfl
  refine ⟨⟨_, hS, rfl⟩, F.args_list_init_2 _ _, ?_⟩
  show wpAny _ A.in1.in1 (do let old ← Builtin.List.listItems (.ref s.heap.objs.size); Builtin.List.listUpdate (.ref s.heap.objs.size) (fun _ => #[]); letGo old.toList.reverse; Builtin.List.listExtendWith (.ref s.heap.objs.size) (.ref z) .none) _ _ _
  refine wpAny_bind ?_
  unfold Builtin.List.listItems
  refine wpAny_bind (wpAny_seqItems hS rfl (wpAny_pure ?_))
  show wpAny _ A.in1.in1 (updateSeq s.heap.objs.size (fun _ => #[]) >>= fun _ => letGo (#[] : Array Value).toList.reverse >>= fun _ => Builtin.List.listExtendWith (.ref s.heap.objs.size) (.ref z) .none) _ _ _
  refine wpAny_bind (wpAny_updateSeq hS rfl ?_)
  have hS2 := Heap.get?_update_self (Obj.mapSeq (fun _ => (#[] : Array Value))) hS rfl
  refine wpAny_bind (wpAny_letGo ?_)
  unfold Builtin.List.listExtendWith
  have up : ∀ (h : Heap) (f : Obj → Obj), (∀ b o, s.heap.get? b = some o → h.get? b = some o) → ∀ b o, s.heap.get? b = some o → (h.update s.heap.objs.size f).get? b = some o := fun h f q b o e =>
    (Heap.get?_update_other _ _ (Ne.symm (Nat.ne_of_lt (Heap.lt_size e)))).trans (q b o e)
  have k1 : ∀ b o, s.heap.get? b = some o → (s.heap.push { cls := .type "list", data := .seq #[] }).get? b = some o := fun b o e => Heap.get?_push_of_some _ e
  have k2 := up _ (Obj.mapSeq (fun _ => (#[] : Array Value))) k1
  have gty : ∀ {h : Heap} {s' : Shared}, s'.heap = h → (∀ b o, s.heap.get? b = some o → h.get? b = some o) → s'.TypeIs (.ref z) "zip" := fun {h s'} e q => by subst e; exact ⟨_, q _ _ hz, rfl⟩
  refine wpAny_bind (wpAny_typeOf (gty rfl k2) ?_)
  have h1' : Builtin.List.listSameRef (.ref s.heap.objs.size) (.ref z) = false := by simp [Builtin.List.listSameRef, hSz]
  have h2' : (Value.type "zip" == Value.type "list") = false := by decide
  have h3' : (Value.type "zip" == Value.type "tuple") = false := by decide
  simp only [h1', h2', h3', Bool.or_false, Bool.false_eq_true, if_false]
  refine wpAny_bind (wpAny_pyIter_zip (k2 _ _ hz) ?_)
  refine wpAny_bind (wpAny_holding ?_)
  unfold Builtin.List.listLengthHint
  refine wpAny_bind (wpAny_specialOf (gty rfl k2) zip_no_len ?_)
  show wpAny _ A.in1.in1 (specialOf (Value.ref z) (Str.ofString "__length_hint__") >>= _) _ _ _
  refine wpAny_bind (wpAny_specialOf (gty rfl k2) zip_no_hint ?_)
  refine wpAny_pure ?_
  show wpAny _ A.in1.in1 (rule "list.extend.makes-room" >>= fun _ => Builtin.List.listTouch (.ref s.heap.objs.size) >>= fun _ =>
    again (.builtin "list.extend.loop" ⟨[.ref s.heap.objs.size, .ref z, .none], []⟩)) _ _ _
  refine wpAny_bind (wpAny_rule ?_)
  refine wpAny_bind ?_
  show wpAny _ A.in1.in1 (updateSeq s.heap.objs.size (·.push .none) >>= fun _ => updateSeq s.heap.objs.size (·.pop)) _ _ _
  refine wpAny_bind (wpAny_updateSeq hS2 rfl ?_)
  have hS3 := Heap.get?_update_self (Obj.mapSeq (·.push Value.none)) hS2 rfl
  refine wpAny_updateSeq (hz := by seq_fits) hS3 rfl ?_
  have hS4 := Heap.get?_update_self (Obj.mapSeq (·.pop)) hS3 rfl
  have k4 := up _ (Obj.mapSeq (·.pop)) (up _ (Obj.mapSeq (·.push Value.none)) k2)
  refine wpAny_pure ⟨plainId_quiet F.plain_extend_loop _, ?_⟩
  generalize hH : (((s.heap.push { cls := .type "list", data := .seq #[] }).update s.heap.objs.size (Obj.mapSeq fun _ => #[])).update s.heap.objs.size (Obj.mapSeq fun x => x.push Value.none)).update s.heap.objs.size (Obj.mapSeq fun x => x.pop) = h4 at *
  have z4 : h4.objs.size = s.heap.objs.size + 1 := by
    rw [← hH]
    have e1 := (Heap.SameBut.update (((s.heap.push { cls := .type "list", data := .seq #[] }).update s.heap.objs.size (Obj.mapSeq fun _ => #[])).update s.heap.objs.size (Obj.mapSeq fun x => x.push Value.none)) s.heap.objs.size (Obj.mapSeq fun x => x.pop)).1
    have e2 := (Heap.SameBut.update ((s.heap.push { cls := .type "list", data := .seq #[] }).update s.heap.objs.size (Obj.mapSeq fun _ => #[])) s.heap.objs.size (Obj.mapSeq fun x => x.push Value.none)).1
    have e3 := (Heap.SameBut.update (s.heap.push { cls := .type "list", data := .seq #[] }) s.heap.objs.size (Obj.mapSeq fun _ => #[])).1
    rw [e1, e2, e3, Heap.size_push]
  have hS4' : ∃ c, h4.get? s.heap.objs.size = some (lstObj #[] c) := ⟨_, hS4⟩
  obtain ⟨c4, hS5⟩ := hS4'
  have fin : ∀ (h' : Heap) (ts : List Nat) (c : Nat), (∀ c o, c < n0 → s.heap.get? c = some o → h'.get? c = some o) → h'.get? s.heap.objs.size = some (lstObj (ts.map Value.ref).toArray c) → Pairs h' (s.heap.objs.size + 1) ts xs ys xs.size → Q (.ref s.heap.objs.size) { s with heap := h' } := fun h' ts c q1 q2 q3 =>
    hQ s.heap.objs.size h' ts c hn0 q1 q2 (fun hm => by
      obtain ⟨j, hj, e⟩ := List.mem_iff_getElem.mp hm
      obtain ⟨r1, _⟩ := q3.at_ j _ (by rw [List.getElem?_eq_getElem hj, e])
      omega) ⟨q3.len, q3.nd, fun j t hj => by
      obtain ⟨r1, r2, r3⟩ := q3.at_ j t hj
      exact ⟨by omega, r2, r3⟩⟩
  have ne : ∀ {a b : Nat}, a < n0 → n0 ≤ b → a ≠ b := fun h h' => by omega
  have neS : ∀ {b : Nat}, b < s.heap.objs.size → s.heap.objs.size ≠ b := fun h => by omega
  have neS' : ∀ {b : Nat}, b < s.heap.objs.size → b ≠ s.heap.objs.size := fun h => by omega
  have lS1 : ∀ {b : Nat}, b < s.heap.objs.size → b < s.heap.objs.size + 1 := fun h => by omega
  have ll1 : l1 < s.heap.objs.size := by omega
  have ll2 : l2 < s.heap.objs.size := by omega
  refine codeAny_builtin F.entry_extend_loop ?_
  rw [Around.under_plainId F.plain_extend_loop _]
  show wpAny _ A.in1.in1 (pyNext (.ref z) >>= _) _ _ _
  by_cases hx0 : xs.size = 0
  · refine wpAny_bind (RZ.pyNext_zipT_end (A := A.in1.in1) hh D (k4 _ _ hz) (k4 _ _ hTI) (k4 _ _ hTO) (h1.at fun o e => k4 _ o e) (h2.at fun o e => k4 _ o e) (t1.at fun o e => k4 _ o e) (t2.at fun o e => k4 _ o e) (.inl (by simp [hx0])) fun h' hk => ?_)
    refine wpAny_pure ⟨rfl, fin h' [] c4 (fun c o hc e => hk c o (ne hc hzn) (ne hc hTOn) (ne hc hi1) (ne hc hi2) (k4 c o e)) (hk _ _ (neS lz) (neS lTO) (neS li1) (neS li2) hS5) ⟨by simp [hx0], List.nodup_nil, fun j t hj => by simp at hj⟩⟩
  · have hlt : 0 < xs.size := by omega
    have hx : xs[0]? = some (xs[0]'hlt) := Array.getElem?_eq_getElem _
    have hy : ys[0]? = some (ys[0]'(by rw [← hlen]; exact hlt)) := Array.getElem?_eq_getElem _
    refine wpAny_bind (RZ.pyNext_zipT_item D (k4 _ _ hz) (k4 _ _ hTI) (k4 _ _ hTO) (h1.at fun o e => k4 _ o e) (h2.at fun o e => k4 _ o e) (t1.at fun o e => k4 _ o e) (t2.at fun o e => k4 _ o e) hx hy fun h' a1 a0 a2 a3 a4 a5 a6 => ?_)
    have a4 : IsPair h' h4.objs.size (xs[0]'hlt) (ys[0]'(by rw [← hlen]; exact hlt)) := a4
    have hS' := a6 _ _ (neS lz) (neS lTO) (neS li1) (neS li2) hS5
    show wpAny _ A.in1.in1 (updateSeq s.heap.objs.size (·.push (.ref h4.objs.size)) >>= _) _ _ _
    refine wpAny_bind ?_
    refine wpAny_updateSeq hS' rfl (wpAny_pure ⟨plainId_quiet F.plain_extend_loop _, ?_⟩)
    have eS := Heap.get?_update_self (Obj.mapSeq (·.push (Value.ref h4.objs.size))) hS' rfl
    have keepU : ∀ c o, c ≠ s.heap.objs.size → h'.get? c = some o → (h'.update s.heap.objs.size (Obj.mapSeq (·.push (Value.ref h4.objs.size)))).get? c = some o := fun c o hc e => (Heap.get?_update_other _ _ (Ne.symm hc)).trans e
    have szU : (h'.update s.heap.objs.size (Obj.mapSeq (·.push (Value.ref h4.objs.size)))).objs.size = h'.objs.size := (Heap.SameBut.update h' s.heap.objs.size _).1
    have a5 : h'.objs.size = h4.objs.size + 1 := a5
    refine zip_loop (A := A.in1) (n1 := s.heap.objs.size + 1) hh D hlen hn (lS1 lz) (lS1 lTI) (lS1 li1) (lS1 li2) (Nat.lt_succ_self _) (neS lz) (neS lTI) (neS li1) (neS li2) (neS ll1) (neS ll2) .none _ 1 _ [h4.objs.size] _ h4.objs.size false rfl hlt (by simp) (keepU _ _ (neS' lz) a1)
      (keepU _ _ (neS' lTI) (a6 TI _ D.TIz D.TITO D.TIi1 D.TIi2 (k4 _ _ hTI))) (a2.at fun o e => keepU _ o (neS' li1) e) (a3.at fun o e => keepU _ o (neS' li2) e) (t1.at fun o e => keepU _ o (neS' ll1) (a6 _ _ D.l1z D.l1TO D.l1i1 D.l1i2 (k4 _ _ e))) (t2.at fun o e => keepU _ o (neS' ll2) (a6 _ _ D.l2z D.l2TO D.l2i1 D.l2i2 (k4 _ _ e)))
      (by show _ ≤ (h'.update _ _).objs.size; rw [szU]; omega) ⟨rfl, by simp, fun j t hj => ?_⟩ (by exact eS) fun h'' ts' c' q1 q2 q3 => ⟨rfl, fin h'' ts' c' (fun c o hc e => q1 c o (ne hc hn0) (ne hc hzn) (ne hc hi1) (ne hc hi2) (keepU c o (ne hc hn0) (a6 c o (ne hc hzn) (ne hc hTOn) (ne hc hi1) (ne hc hi2) (k4 c o e)))) q2 q3⟩
    match j, hj with
    | 0, hj =>
      simp at hj
      subst hj
      exact ⟨by omega, by show _ < (h'.update _ _).objs.size; rw [szU]; omega, _, _, hx, hy, keepU _ _ (by show h4.objs.size ≠ s.heap.objs.size; omega) a4⟩
    | j + 1, hj => simp at hj
end
/-! ### the expression -/
section
variable {X : Cx} {pins : List (Addr × Obj)} {σ : L2.St} {H : Hp} {s : Shared}
/-- several new objects at once -/
theorem lay_many {h' : Heap} {H' : Hp} {t' : Nat} (I : Inv X pins σ H s) (k : ∀ b u, s.heap.get? b = some u → h'.get? b = some u) (hold : ∀ b o, H b = some o → H' b = some o) (hnew : ∀ b o, s.heap.get? b = some o → H b = none → H' b = none)
    (hok : ∀ b o, H b = none → H' b = some o → ObjOk X.prog X.w H' h' b o) : Inv X pins σ H' { s with heap := h', toks := t' } := by
  refine I.un ⟨fun b o q _ _ _ => k b o q, fun b o q _ _ _ => ⟨o.slots, k b o q⟩, fun b o q n _ => hnew b o q n, fun b o q _ => ⟨o, k b o q⟩, fun b xs q => hold _ _ q, fun b o u q => hold _ _ q, fun b ps q => ⟨#[], by rw [hold _ _ q]; simp⟩⟩ fun b o e => ?_
  cases q : H b with
  | none => exact hok b o q e
  | some u =>
    have := hold b u q
    rw [e] at this
    cases this
    exact (I.hok b o q).stay (fun c v _ z => k c v z) (fun c z => hold _ _ z) fun c xs z => hold _ _ z
theorem lk_zip {β : Type} : ∀ {ts : List Nat} {l : List β} {j t : Nat} {v : β}, ts.Nodup → ts[j]? = some t → l[j]? = some v → (ts.zip l).lookup t = some v
  | [], _, _, _, _, _, h, _ => by simp at h
  | _ :: _, [], _, _, _, _, _, h => by simp at h
  | a :: ts, b :: l, 0, t, v, _, h1, h2 => by
    simp at h1 h2
    subst h1 h2
    rw [List.zip_cons_cons, List.lookup_cons, beq_self_eq_true]
  | a :: ts, b :: l, j + 1, t, v, hn, h1, h2 => by
    simp at h1 h2
    rw [List.zip_cons_cons, List.lookup_cons]
    have hne : (t == a) = false := by
      rw [beq_eq_false_iff_ne]
      intro e
      subst e
      exact (List.nodup_cons.mp hn).1 (List.mem_of_getElem? h1)
    rw [hne]
    exact lk_zip (List.nodup_cons.mp hn).2 h1 h2
theorem lk_some {β : Type} : ∀ {ts : List Nat} {l : List β} {t : Nat} {v : β}, (ts.zip l).lookup t = some v → ∃ j : Nat, ts[j]? = some t ∧ l[j]? = some v
  | [], _, _, _, h => by simp at h
  | _ :: _, [], _, _, h => by simp at h
  | a :: ts, b :: l, t, v, h => by
    rw [List.zip_cons_cons, List.lookup_cons] at h
    split at h
    · rename_i e
      cases h
      exact ⟨0, by simp [eq_of_beq e], rfl⟩
    · obtain ⟨j, h1, h2⟩ := lk_some h
      exact ⟨j + 1, by simpa using h1, by simpa using h2⟩
/-- the pairs, tracked -/
def hpPairs (H : Hp) (ts : List Nat) (xs ys : List V) : Hp := fun b => match (ts.zip (xs.zip ys)).lookup b with
  | some q => some (.tup [q.1, q.2])
  | none => H b
theorem hpPairs_no {ts : List Nat} {xs ys : List V} {b : Nat} (h : b ∉ ts) : hpPairs H ts xs ys b = H b := by
  unfold hpPairs
  split
  · rename_i q e
    obtain ⟨j, h1, _⟩ := lk_some e
    exact absurd (List.mem_of_getElem? h1) h
  · rfl
theorem hpPairs_at {ts : List Nat} {xs ys : List V} {j t : Nat} {x y : V} (hn : ts.Nodup) (h : ts[j]? = some t) (hx : xs[j]? = some x) (hy : ys[j]? = some y) : hpPairs H ts xs ys t = some (.tup [x, y]) := by
  unfold hpPairs
  rw [lk_zip (v := (x, y)) hn h (List.getElem?_zip_eq_some.mpr ⟨hx, hy⟩)]
def tLzip (K : PySem.W.Frag) (ta : TA) : TE := fun σ H Q => ta σ H fun vs H1 => ∃ (a b : Addr) (xs ys : List V), vs = [.ref a, .ref b] ∧ SqT K H1 a xs ∧ SqT K H1 b ys ∧ xs.length = ys.length ∧
  ∀ (Hm : Hp) (p : Addr) (ts : List Nat), (∀ b o, H1 b = some o → Hm b = some o) → Hm p = none → ts.length = xs.length → (∀ (j t : Nat), ts[j]? = some t → ∃ x y, xs[j]? = some x ∧ ys[j]? = some y ∧ Hm t = some (.tup [x, y])) → Q (.ref p) (upd Hm p (.lst (ts.map V.ref)))
theorem pe_lzip {a b : Expr} {ta : TA} {p p2 q pos : Pos} (hg : Gl X "list") (hm : X.mg "list" = none) (hg2 : Gl X "zip") (hm2 : X.mg "zip" = none) (ha : PA X [a, b] ta) (hc : X.calm = true)
    (na : starEach [a, b] X.env = (false, eval a X.env) :: starEach [b] X.env) (nb : (backTo q (starEach [b] X.env)).any (·.1) = false) : PE X (.Call (.Name "list" p) [.Call (.Name "zip" p2) [a, b] [] q] [] pos) (tLzip X.K ta) := by
  refine ⟨fun pins s σ H Q I h => ?_⟩
  refine Call_ (ld_blt I hg hm (by decide +kernel : bootBuiltins "list" = some (.type "list")) ?_)
  refine PyProof.Rows.callWith_type1 (PyProof.Rows.args_cons ?_ rfl) rfl rfl
  refine Call_ (ld_blt I hg2 hm2 (by decide +kernel : bootBuiltins "zip" = some (.type "zip")) ?_)
  refine PyProof.Rows.callWith_type1 (thn (ha.run q pins s σ H _ I h) fun us s1 ⟨vs, H1, I1, r1, q1⟩ => ?_) na nb
  obtain ⟨a, b, xs, ys, rfl, hqx, hqy, hl, q1⟩ := q1
  cases r1 with
  | cons r rr =>
    cases rr with
    | cons r' rr =>
      cases rr
      cases r
      cases r'
      obtain ⟨its, rv, p1, hz1⟩ := I1.tuple hqx
      obtain ⟨its2, rv2, p2, _⟩ := I1.tuple hqy
      have q1l : its.toArray.size = xs.length := by rw [List.size_toArray, rv.length]
      have q2l : its2.toArray.size = ys.length := by rw [List.size_toArray, rv2.length]
      obtain ⟨o1, e1, c1, n1, d1⟩ := id p1
      obtain ⟨o2, e2, c2, n2, d2⟩ := id p2
      have la : a < s1.heap.objs.size := Heap.lt_size e1
      have lb : b < s1.heap.objs.size := Heap.lt_size e2
      refine RZ.call_zipT (hl1 := p1) (hl2 := p2) fun h' hz hTI hTO h1 h2 hsz hk => ?_
      refine PyProof.Rows.args_nil ?_
      refine call_list_zip (n0 := s1.heap.objs.size) (s := { s1 with heap := h' }) (I1.ok.hd hc) (PySem.W.ktu_apart s1.heap.objs.size a b la lb) (by rw [q1l, q2l, hl]) (by rw [q1l]; exact hz1) la lb hz hTI hTO h1 h2 ⟨o1, hk _ _ e1, c1, n1, d1⟩ ⟨o2, hk _ _ e2, c2, n2, d2⟩ (by omega) (by omega) (by omega) (by omega) (by rw [hsz]; omega) fun S h'' ts c hS kp hSl hSts P => ?_
      have kk : ∀ b u, s1.heap.get? b = some u → h''.get? b = some u := fun b u e => kp b u (Heap.lt_size e) (hk b u e)
      have fr : ∀ t : Nat, s1.heap.objs.size ≤ t → H1 t = none := fun t ht => I1.hok.fresh ht
      have tsn : ∀ t ∈ ts, s1.heap.objs.size ≤ t := fun t ht => by
        obtain ⟨j, hj, e⟩ := List.mem_iff_getElem.mp ht
        exact (P.at_ j t (by rw [List.getElem?_eq_getElem hj, e])).1
      have tl : ts.length = xs.length := by rw [P.len, q1l]
      have at_ : ∀ (j t : Nat), ts[j]? = some t → ∃ x y ux uy, xs[j]? = some x ∧ ys[j]? = some y ∧ RelV x ux ∧ RelV y uy ∧ IsPair h'' t ux uy := fun j t hj => by
        obtain ⟨_, _, ux, uy, e1, e2, e3⟩ := P.at_ j t hj
        have hjl : j < ts.length := (List.getElem?_eq_some_iff.mp hj).1
        have hx : xs[j]? = some (xs[j]'(by omega)) := List.getElem?_eq_getElem _
        have hy : ys[j]? = some (ys[j]'(by omega)) := List.getElem?_eq_getElem _
        obtain ⟨u1, z1, w1⟩ := rv.get hx
        obtain ⟨u2, z2, w2⟩ := rv2.get hy
        rw [List.getElem?_toArray, z1] at e1
        rw [List.getElem?_toArray, z2] at e2
        cases e1
        cases e2
        exact ⟨_, _, _, _, hx, hy, w1, w2, e3⟩
      have hmS : hpPairs H1 ts xs ys S = none := by rw [hpPairs_no hSts]; exact fr S hS
      have hold : ∀ b o, H1 b = some o → hpPairs H1 ts xs ys b = some o := fun b o e => by
        rw [hpPairs_no fun hm => by rw [fr b (tsn b hm)] at e; cases e]
        exact e
      have hold2 : ∀ b o, H1 b = some o → upd (hpPairs H1 ts xs ys) S (.lst (ts.map V.ref)) b = some o := fun b o e => by
        rw [upd_ne fun z => by rw [z, fr S hS] at e; cases e]
        exact hold b o e
      have J : Inv X pins σ (upd (hpPairs H1 ts xs ys) S (.lst (ts.map V.ref))) { s1 with heap := h'' } := lay_many (t' := s1.toks) I1 kk hold2 (fun b o e n => by
        have hlt := Heap.lt_size e
        rw [upd_ne (Nat.ne_of_lt (Nat.lt_of_lt_of_le hlt hS)), hpPairs_no fun hm => absurd (tsn b hm) (Nat.not_le_of_lt hlt)]
        exact n) fun b o n e => by
          by_cases hb : b = S
          · subst hb
            rw [upd_same] at e
            cases e
            refine ⟨by rw [List.length_map, tl]; exact hz1, ts.map Value.ref, c, ?_, hSl⟩
            clear hSts P tsn tl at_ hmS hold hold2 hSl
            induction ts with
            | nil => exact .nil
            | cons t ts ih => exact .cons rfl ih
          · rw [upd_ne hb] at e
            by_cases hm : b ∈ ts
            · obtain ⟨j, hj, ej⟩ := List.mem_iff_getElem.mp hm
              have hj2 : ts[j]? = some b := by rw [List.getElem?_eq_getElem hj, ej]
              obtain ⟨x, y, ux, uy, e1, e2, w1, w2, e3⟩ := at_ j b hj2
              rw [hpPairs_at P.nd hj2 e1 e2] at e
              cases e
              exact ⟨by show (2 : Nat) ≤ sizeLine; rw [sizeLine_eq]; decide, [ux, uy], .cons w1 (.cons w2 .nil), _, e3, rfl, _, rfl⟩
            · rw [hpPairs_no hm, n] at e
              cases e
      exact ⟨.ref S, _, J, rfl, q1 _ S ts hold hmS tl fun j t hj => by
        obtain ⟨x, y, _, _, e1, e2, _⟩ := at_ j t hj
        exact ⟨x, y, e1, e2, hpPairs_at P.nd hj e1 e2⟩⟩
end
end L3
set_option maxRecDepth 100000
/-! L3RuleX: order of tuples and lists of ints and texts, for over zip with a name, a display with a tuple for its key, bools' difference. -/
namespace L3
open PySem PySem.Spec PyProof.Rows L2
/-- the order of rows of ints and texts; g: greater -/
def lexV (g : Bool) : List V → List V → Option Bool
  | [], [] => some false
  | [], _ :: _ => some (!g)
  | _ :: _, [] => some g
  | .int i :: xs, .int j :: ys => if i = j then lexV g xs ys else some (if g then decide (j < i) else decide (i < j))
  | .str a :: xs, .str b :: ys => if a = b then lexV g xs ys else some (if g then decide (b.cps.toList < a.cps.toList) else decide (a.cps.toList < b.cps.toList))
  | _ :: _, _ :: _ => none
theorem lexV_int (g : Bool) (i j : Int) (xs ys : List V) : lexV g (.int i :: xs) (.int j :: ys) = if i = j then lexV g xs ys else some (if g then decide (j < i) else decide (i < j)) := by rw [lexV]
theorem lexV_str (g : Bool) (a b : Str) (xs ys : List V) : lexV g (.str a :: xs) (.str b :: ys) = if a = b then lexV g xs ys else some (if g then decide (b.cps.toList < a.cps.toList) else decide (a.cps.toList < b.cps.toList)) := by rw [lexV]
abbrev lexOp (g : Bool) : CmpOp := if g then .Gt else .Lt
theorem opR_subB {X : Cx} : OpR X (binaryOp .Sub) (fun x y H Q => ∃ p q, x = .bl p ∧ y = .bl q ∧ Q (.int ((if p then 1 else 0) - (if q then 1 else 0))) H) := by
  intro pins s σ H x y v u Q I rx ry ⟨p, q, e1, e2, h⟩
  subst e1 e2
  cases rx
  cases ry
  refine sub_bool ⟨.int ((if p then 1 else 0) - (if q then 1 else 0)), H, I.kept (t' := s.toks + 1) fun b u q => q, ⟨s.toks, by cases p <;> cases q <;> rfl⟩, h⟩
section
variable {prog : Program} {w : World} {A : Around} {E : Value → Shared → Prop} {s : Shared}
theorem rc_int {g : Bool} {i j : Int} {t u : Tok} {Q : Value → Shared → Prop} (h : Q (.bool (if g then decide (j < i) else decide (i < j))) s) : wpAny (model prog w) A (richCompare (lexOp g) (.int i t) (.int j u)) Q E s := by
  cases g
  · exact P.lt_int h
  · exact P.gt_int h
theorem rc_str {g : Bool} {a b : Str} {t u : Tok} {Q : Value → Shared → Prop} (h : Q (.bool (if g then decide (b.cps.toList < a.cps.toList) else decide (a.cps.toList < b.cps.toList))) s) : wpAny (model prog w) A (richCompare (lexOp g) (.str a t) (.str b u)) Q E s := by
  cases g
  · exact P.lt_str h
  · exact P.gt_str h
theorem sz_lex (g : Bool) (m n : Nat) : Builtin.Tuple.tupleCompareSizes (lexOp g) m n = .bool (if g then decide (n < m) else decide (m < n)) := by cases g <;> rfl
theorem lex_end {g k : Bool} {xs ys : List V} (h : lexV g xs ys = some k) (e : xs = [] ∨ ys = []) : k = if g then decide (ys.length < xs.length) else decide (xs.length < ys.length) := by
  cases xs <;> cases ys <;> simp_all [lexV] <;> cases g <;> simp_all
/-- one pair -/
theorem lex_step {g k : Bool} {x y : V} {xs ys : List V} {u v : Value} (h : lexV g (x :: xs) (y :: ys) = some k) (rx : RelV x u) (ry : RelV y v) :
    ∃ b, (∀ {A : Around} {E : Value → Shared → Prop} {s : Shared} {Q : Bool → Shared → Prop}, Q b s → wpAny (model prog w) A (eqBool u v) Q E s) ∧ (b = true → lexV g xs ys = some k) ∧
      (b = false → ∀ {A : Around} {E : Value → Shared → Prop} {s : Shared} {Q : Value → Shared → Prop}, Q (.bool k) s → wpAny (model prog w) A (richCompare (lexOp g) u v) Q E s) := by
  cases x <;> cases y <;> first
    | (cases h; done)
    | skip
  · obtain ⟨t, rfl⟩ := rx
    obtain ⟨t', rfl⟩ := ry
    rename_i i j
    refine ⟨i == j, fun q => wpAny_eqBool_int q, fun e => ?_, fun e A E s Q q => rc_int ?_⟩
    · rw [← h, lexV_int]
      rw [if_pos (by simpa using e)]
    · rw [lexV_int] at h
      rw [if_neg (by simpa using e)] at h
      cases h
      exact q
  · obtain ⟨t, rfl⟩ := rx
    obtain ⟨t', rfl⟩ := ry
    rename_i i j
    refine ⟨decide (i = j), fun q => wpAny_eqBool_str q, fun e => ?_, fun e A E s Q q => rc_str ?_⟩
    · rw [← h, lexV_str]
      rw [if_pos (by simpa using e)]
    · rw [lexV_str] at h
      rw [if_neg (by simpa using e)] at h
      cases h
      exact q
theorem tup_lex {g k : Bool} {a b : Addr} {xs ys : List V} {us vs : List Value} {Q : Value → Shared → Prop} (ha : IsTup s.heap a us.toArray) (hb : IsTup s.heap b vs.toArray) (rx : Vals xs us) (ry : Vals ys vs)
    (h : lexV g xs ys = some k) (hu : A.units < cLine) (q : Q (.bool k) s) : wpAny (model prog w) A (compareOp (lexOp g) (.ref a) (.ref b)) Q E s := by
  have hin : ∀ {s : Shared} {A : Around} {E} {Q : Bool → Shared → Prop}, IsTup s.heap b vs.toArray → Q true s → wpAny (model prog w) A (isInstance (.ref b) (.type "tuple")) Q E s := fun h q => wpAny_isInstance h.typeIs (by rw [isSubtype_type]; kernel_rfl) q
  cases g
  · refine wpAny_richCompare_same_room (op := .Lt) ha.typeIs hb.typeIs F.slot_tuple_lt (wpAny_call_entry F.slot_tuple_lt ha.typeIs F.entry_tuple_lt ?_ (F.args_tuple_lt_2 _ _)) hu
    show wpAny _ _ (isInstance (.ref b) (.type "tuple") >>= _) _ _ _
    refine wpAny_bind (hin hb ?_)
    rw [if_neg (by decide)]
    refine wpAny_bind (tupleItemsOf_ ha (wpAny_bind (tupleItemsOf_ hb (wpAny_bind ?_))))
    refine wpAny_forIn_list _ (fun rest c s' => s' = s ∧ c = (none, ()) ∧ ∃ (xs' ys' : List V) (us' vs' : List Value), rest = us'.zip vs' ∧ Vals xs' us' ∧ Vals ys' vs' ∧ lexV false xs' ys' = some k ∧ us.length + vs'.length = vs.length + us'.length) _ ?_ ?_ _ _ ⟨rfl, rfl, xs, ys, us, vs, by simp, rx, ry, h, by omega⟩
    · rintro ⟨u, v⟩ rest c s' ⟨rfl, rfl, xs', ys', us', vs', e, r1, r2, h', hl⟩
      cases r1 with
      | nil => simp at e
      | cons p1 p2 =>
        cases r2 with
        | nil => simp at e
        | cons q1 q2 =>
          simp only [List.zip_cons_cons, List.cons.injEq, Prod.mk.injEq] at e
          obtain ⟨⟨rfl, rfl⟩, rfl⟩ := e
          obtain ⟨b, h1, h2, h3⟩ := lex_step (prog := prog) (w := w) h' p1 q1
          refine wpAny_bind (h1 ?_)
          cases b with
          | true =>
            rw [if_neg (by simp)]
            exact wpAny_pure ⟨rfl, rfl, _, _, _, _, rfl, p2, q2, h2 rfl, by simp at hl; omega⟩
          | false =>
            rw [if_pos (by simp)]
            refine wpAny_bind (wpAny_rule (wpAny_bind (h3 rfl ?_)))
            exact wpAny_bind (wpAny_pure (wpAny_pure (wpAny_pure ⟨_, rfl, by simp, q⟩)))
    · rintro c s' ⟨rfl, rfl, xs', ys', us', vs', e, r1, r2, h', hl⟩
      refine wpAny_pure ⟨_, rfl, ?_⟩
      rw [show Builtin.Tuple.tupleCompareSizes .Lt us.toArray.size vs.toArray.size = _ from sz_lex false _ _]
      refine ⟨by simp, ?_⟩
      have e2 : xs' = [] ∨ ys' = [] := by
        cases r1 with
        | nil => exact .inl rfl
        | cons p1 p2 =>
          cases r2 with
          | nil => exact .inr rfl
          | cons q1 q2 => simp at e
      have hk := lex_end h' e2
      have l1 := r1.length
      have l2 := r2.length
      have : (if false = true then decide ((vs.toArray).size < (us.toArray).size) else decide ((us.toArray).size < (vs.toArray).size)) = k := by
        rw [hk]
        simp
        omega
      rw [this]
      exact q
  · refine wpAny_richCompare_same_room (op := .Gt) ha.typeIs hb.typeIs F.slot_tuple_gt (wpAny_call_entry F.slot_tuple_gt ha.typeIs F.entry_tuple_gt ?_ (F.args_tuple_gt_2 _ _)) hu
    show wpAny _ _ (isInstance (.ref b) (.type "tuple") >>= _) _ _ _
    refine wpAny_bind (hin hb ?_)
    rw [if_neg (by decide)]
    refine wpAny_bind (tupleItemsOf_ ha (wpAny_bind (tupleItemsOf_ hb (wpAny_bind ?_))))
    refine wpAny_forIn_list _ (fun rest c s' => s' = s ∧ c = (none, ()) ∧ ∃ (xs' ys' : List V) (us' vs' : List Value), rest = us'.zip vs' ∧ Vals xs' us' ∧ Vals ys' vs' ∧ lexV true xs' ys' = some k ∧ us.length + vs'.length = vs.length + us'.length) _ ?_ ?_ _ _ ⟨rfl, rfl, xs, ys, us, vs, by simp, rx, ry, h, by omega⟩
    · rintro ⟨u, v⟩ rest c s' ⟨rfl, rfl, xs', ys', us', vs', e, r1, r2, h', hl⟩
      cases r1 with
      | nil => simp at e
      | cons p1 p2 =>
        cases r2 with
        | nil => simp at e
        | cons q1 q2 =>
          simp only [List.zip_cons_cons, List.cons.injEq, Prod.mk.injEq] at e
          obtain ⟨⟨rfl, rfl⟩, rfl⟩ := e
          obtain ⟨b, h1, h2, h3⟩ := lex_step (prog := prog) (w := w) h' p1 q1
          refine wpAny_bind (h1 ?_)
          cases b with
          | true =>
            rw [if_neg (by simp)]
            exact wpAny_pure ⟨rfl, rfl, _, _, _, _, rfl, p2, q2, h2 rfl, by simp at hl; omega⟩
          | false =>
            rw [if_pos (by simp)]
            refine wpAny_bind (wpAny_rule (wpAny_bind (h3 rfl ?_)))
            exact wpAny_bind (wpAny_pure (wpAny_pure (wpAny_pure ⟨_, rfl, by simp, q⟩)))
    · rintro c s' ⟨rfl, rfl, xs', ys', us', vs', e, r1, r2, h', hl⟩
      refine wpAny_pure ⟨_, rfl, ?_⟩
      rw [show Builtin.Tuple.tupleCompareSizes .Gt us.toArray.size vs.toArray.size = _ from sz_lex true _ _]
      refine ⟨by simp, ?_⟩
      have e2 : xs' = [] ∨ ys' = [] := by
        cases r1 with
        | nil => exact .inl rfl
        | cons p1 p2 =>
          cases r2 with
          | nil => exact .inr rfl
          | cons q1 q2 => simp at e
      have hk := lex_end h' e2
      have l1 := r1.length
      have l2 := r2.length
      have : (if true = true then decide ((vs.toArray).size < (us.toArray).size) else decide ((us.toArray).size < (vs.toArray).size)) = k := by
        rw [hk]
        simp
        omega
      rw [this]
      exact q
end
theorem op_lexT {X : Cx} (g : Bool) (hu : X.A.units < cLine) : OpR X (compareOp (lexOp g)) (fun x y H Q => ∃ a b xs ys k, x = .ref a ∧ y = .ref b ∧ SqT X.K H a xs ∧ SqT X.K H b ys ∧ lexV g xs ys = some k ∧ Q (.bl k) H) := by
  intro pins s σ H x y v u Q I rx ry ⟨a, b, xs, ys, k, e1, e2, h1, h2, h3, q⟩
  subst e1 e2
  cases rx
  cases ry
  obtain ⟨us, r1, p1, _⟩ := I.tuple h1
  obtain ⟨vs, r2, p2, _⟩ := I.tuple h2
  exact tup_lex p1 p2 r1 r2 h3 hu ⟨.bl k, H, I, rfl, q⟩
/-! ### lists -/
section
variable {prog : Program} {w : World}
theorem drop_cons {α : Type} {l r : List α} {i : Nat} {x : α} (h : l.drop i = x :: r) : l[i]? = some x ∧ l.drop (i + 1) = r := by
  refine ⟨?_, ?_⟩
  · have : (l.drop i)[0]? = some x := by rw [h]; rfl
    simpa using this
  · rw [← List.drop_drop, h]
    rfl
theorem items_ {a : Addr} {us : List Value} {A : Around} {E : Value → Shared → Prop} {s : Shared} {Q : Array Value → Shared → Prop} (h : s.heap.IsList a us.toArray) (q : Q us.toArray s) : wpAny (model prog w) A (Builtin.List.listItems (.ref a)) Q E s :=
  let ⟨_, h1, _, _, h2⟩ := h
  wpAny_listItems h1 h2 q
theorem list_lex_loop {k : Bool} {a b : Addr} {us vs : List Value} {A : Around} {R : Result → Shared → Prop} {s : Shared} (ha : s.heap.IsList a us.toArray) (hb : s.heap.IsList b vs.toArray) (hR : R (.ok (.ret (.bool k))) s) :
    ∀ (xs ys : List V) (i : Nat), Vals xs (us.drop i) → Vals ys (vs.drop i) → i ≤ us.length → i ≤ vs.length → lexV false xs ys = some k → codeAny (model prog w) A (.builtin "list.__eq__.loop" ⟨[.ref a, .ref b, rawInt i, rawInt 0], []⟩) R s
  | xs, ys, i, r1, r2, l1, l2, h => by
    refine codeAny_builtin MeetsSeq3.entry_eq_loop ?_
    rw [Around.under_plainId MeetsSeq3.plain_eq_loop _]
    show wpAny _ A.in1 (Builtin.List.listItems (.ref a) >>= _) _ _ _
    refine wpAny_bind (items_ ha (wpAny_bind (items_ hb ?_)))
    rw [Int.toNat_natCast]
    have n1 : ∀ h0 : us.drop i = [], us.toArray[i]? = none := fun h0 => by
      have := List.drop_eq_nil_iff.mp h0
      simp
      omega
    have n2 : ∀ h0 : vs.drop i = [], vs.toArray[i]? = none := fun h0 => by
      have := List.drop_eq_nil_iff.mp h0
      simp
      omega
    have fin : xs = [] ∨ ys = [] → wpAny (model prog w) A.in1 ((do
        let x ← Builtin.List.listItems (.ref a)
        let y ← Builtin.List.listItems (.ref b)
        ret (.bool (decide (x.size < y.size)))) : Sem PySem.Fin) (fun fin s' => match fin with
          | .done f => R (.ok f) s'
          | .again c' => c'.quiet = true ∧ codeAny (model prog w) A c' R s') (fun e s' => R (.error e) s') s := fun e => by
      refine wpAny_bind (items_ ha (wpAny_bind (items_ hb (wpAny_pure ?_))))
      have hk := lex_end h e
      have q1 := r1.length
      have q2 := r2.length
      rw [List.length_drop] at q1 q2
      have : decide (us.toArray.size < vs.toArray.size) = k := by
        rw [hk]
        simp
        omega
      rw [this]
      exact hR
    cases xs with
    | nil =>
      have e : us.drop i = [] := by cases hq : us.drop i with
        | nil => rfl
        | cons => rw [hq] at r1; cases r1
      rw [n1 e]
      exact fin (.inl rfl)
    | cons x xs =>
      cases ys with
      | nil =>
        have e : vs.drop i = [] := by cases hq : vs.drop i with
          | nil => rfl
          | cons => rw [hq] at r2; cases r2
        rw [n2 e]
        cases hq : us.toArray[i]? with
        | none => exact fin (.inr rfl)
        | some z => exact fin (.inr rfl)
      | cons y ys =>
        cases hq : us.drop i with
        | nil => rw [hq] at r1; cases r1
        | cons u us' =>
          cases hq2 : vs.drop i with
          | nil => rw [hq2] at r2; cases r2
          | cons v vs' =>
            rw [hq] at r1
            rw [hq2] at r2
            cases r1 with
            | cons p1 p2 =>
            cases r2 with
            | cons q1 q2 =>
            obtain ⟨e1, e2⟩ := drop_cons hq
            obtain ⟨e3, e4⟩ := drop_cons hq2
            have g1 : us.toArray[i]? = some u := by simpa using e1
            have g2 : vs.toArray[i]? = some v := by simpa using e3
            rw [g1, g2]
            have m1 := (List.getElem?_eq_some_iff.mp e1).1
            have m2 := (List.getElem?_eq_some_iff.mp e3).1
            obtain ⟨c, h1, h2, h3⟩ := lex_step (prog := prog) (w := w) h p1 q1
            refine wpAny_bind (h1 ?_)
            cases c with
            | true =>
              rw [if_pos rfl]
              refine wpAny_pure ⟨plainId_quiet MeetsSeq3.plain_eq_loop _, ?_⟩
              have := list_lex_loop (A := A) ha hb hR xs ys (i + 1) (by rw [e2]; exact p2) (by rw [e4]; exact q2) (by omega) (by omega) (h2 rfl)
              rw [Int.natCast_add] at this
              exact this
            | false =>
              rw [if_neg (by simp)]
              refine wpAny_bind (items_ ha (wpAny_bind (items_ hb ?_)))
              rw [g1, g2]
              exact wpAny_bind (h3 rfl (wpAny_pure hR))
end
theorem op_lexL {X : Cx} (hu : X.A.units < cLine) : OpR X (compareOp .Lt) (fun x y H Q => ∃ a b xs ys k, x = .ref a ∧ y = .ref b ∧ SqL X.K H a xs ∧ SqL X.K H b ys ∧ lexV false xs ys = some k ∧ Q (.bl k) H) := by
  intro pins s σ H x y v u Q I rx ry ⟨a, b, xs, ys, k, e1, e2, h1, h2, h3, q⟩
  subst e1 e2
  cases rx
  cases ry
  obtain ⟨us, r1, p1, _⟩ := I.list h1
  obtain ⟨vs, r2, p2, _⟩ := I.list h2
  refine richCompare_meets_room (op := .Lt) p1.isList.typeIs p2.isList.typeIs F.slot_list_lt F.entry_list_lt (F.args_list_lt_2 _ _) (S := fun A R s => s.heap.IsList a us.toArray ∧ s.heap.IsList b vs.toArray ∧ R (.ok (.ret (.bool k))) s) ?_ ?_ hu
  · intro prog w A R s ⟨ha, hb, hR⟩
    show wpAny _ A.in1 (isInstance (.ref b) (.type "list") >>= _) _ _ _
    refine wpAny_bind (wpAny_isInstance (b := true) hb.typeIs (by rw [isSubtype_type]; kernel_rfl) ?_)
    rw [if_neg (by decide)]
    show wpAny _ _ (again (.builtin "list.__eq__.loop" ⟨[.ref a, .ref b, rawInt ((0 : Nat) : Int), rawInt 0], []⟩)) _ _ _
    exact wpAny_pure ⟨plainId_quiet MeetsSeq3.plain_eq_loop _, list_lex_loop ha hb hR xs ys 0 r1 r2 (by omega) (by omega) h3⟩
  · exact ⟨p1.isList, p2.isList, by simp, .bl k, H, I, rfl, q⟩
/-! ### for over zip, with a name -/
section
variable {prog : Program} {w : World} {A : Around} {E : Value → Shared → Prop} {s : Shared}
theorem owned_dead {z TI TO T : Addr} {b : Bool} {Q : Bool → Shared → Prop} (hz : IsZip2 s.heap z TI TO T b) (hT : s.heap.get? T = none) (h : Q true s) : wpAny (model prog w) A (Builtin.SmallTypes.ownedTupleIsFree (.ref z)) Q E s := by
  unfold Builtin.SmallTypes.ownedTupleIsFree
  refine wpAny_bind (wpAny_field hz rfl (x := rawInt T) rfl ?_)
  show wpAny _ _ (loadIfAlive (Int.toNat (T : Int)) >>= _) _ _ _
  refine wpAny_bind ?_
  have hT' : s.heap.get? (Int.toNat (T : Int)) = none := by rw [Int.toNat_natCast]; exact hT
  have al : ∀ {Q : Option Obj → Shared → Prop}, Q none s → wpAny (model prog w) A (loadIfAlive (Int.toNat (T : Int))) Q E s := fun {Q} q => by
    have h2 : Q (s.heap.get? (Int.toNat (T : Int))) s := by rw [hT']; exact q
    exact fun Γ p _ => h2
  refine al ?_
  rw [show (none : Option Obj).isNone = true from rfl, if_pos rfl]
  exact wpAny_pure h
theorem zipd_next_item {z TI TO i1 i2 l1 l2 T : Addr} {b : Bool} {k1 k2 : Nat} {xs ys : Array Value} {x y a0 b0 : Value} {Q : Value → Shared → Prop} (D : ZipApart z TI TO i1 i2 l1 l2)
    (hz : IsZip2 s.heap z TI TO T b) (hT : s.heap.get? T = none) (hTI : IsPair s.heap TI (.ref i1) (.ref i2)) (hTO : IsPair s.heap TO a0 b0)
    (h1 : s.heap.IsTupleIter i1 l1 k1) (h2 : s.heap.IsTupleIter i2 l2 k2) (hl1 : s.heap.IsTuple l1 xs) (hl2 : s.heap.IsTuple l2 ys) (hx : xs[k1]? = some x) (hy : ys[k2]? = some y)
    (hQ : ∀ h', IsZip2 h' z TI TO s.heap.objs.size false → IsPair h' TO x y → h'.IsTupleIter i1 l1 (k1 + 1) → h'.IsTupleIter i2 l2 (k2 + 1) → IsPair h' s.heap.objs.size x y → h'.objs.size = s.heap.objs.size + 1 →
      (∀ c o, c ≠ z → c ≠ TO → c ≠ i1 → c ≠ i2 → s.heap.get? c = some o → h'.get? c = some o) → Q (.ref s.heap.objs.size) { s with heap := h' }) :
    wpAny (model prog w) A (Builtin.«zip.__next__» ⟨[.ref z], []⟩) (fun fin s' => ∃ v, fin = .done (.ret v) ∧ Q v s') E s := by
  show wpAny _ _ (field (.ref z) 2 >>= _) _ _ _
  refine wpAny_bind (wpAny_field hz rfl (x := .bool false) rfl ?_)
  show wpAny _ _ (field (.ref z) 3 >>= _) _ _ _
  refine wpAny_bind (wpAny_field hz rfl (x := .ref TI) rfl ?_)
  refine wpAny_bind (wpAny_seqItems hTI rfl ?_)
  show wpAny _ _ (Builtin.SmallTypes.ownedTupleIsFree (.ref z) >>= _) _ _ _
  refine wpAny_bind (owned_dead hz hT ?_)
  rw [if_pos rfl]
  refine wpAny_bind (wpAny_rule ?_)
  refine wpAny_bind (wpAny_field hz rfl (x := .ref TO) rfl ?_)
  show wpAny _ _ (setField (.ref z) 0 .ellipsis >>= _) _ _ _
  refine wpAny_bind (wpAny_setField_rec hz (by simp) fun h₁ hz₁ hs₁ => ?_)
  refine wpAny_bind ?_
  simp only [List.zipIdx_cons, List.zipIdx_nil, List.forIn_cons, List.forIn_nil]
  -- the first item
  refine wpAny_bind (wpAny_bind (wpAny_onRaise ?_))
  show wpAny _ _ (Builtin.SmallTypes.nextOf (.ref i1) >>= _) _ _ _
  refine wpAny_bind (RZ.nextOf_tuple_item (h1.extBut hs₁.extBut D.i1z) (hl1.extBut hs₁.extBut D.l1z) hx fun h₂ h1₂ hs₂ => wpAny_pure ?_)
  have hTO₂ : IsPair h₂ TO a0 b0 := hs₂.extBut _ _ D.TOi1 (hs₁.extBut _ _ D.TOz hTO)
  refine wpAny_bind (wpAny_seqItems hTO₂ rfl ?_)
  refine wpAny_bind (wpAny_updateSeq hTO₂ rfl ?_)
  have eTO₃ := Heap.get?_update_self (Obj.mapSeq (fun q => q.setIfInBounds 0 x)) hTO₂ rfl
  have hs₃ : Heap.SameBut TO h₂ (h₂.update TO (Obj.mapSeq fun q => q.setIfInBounds 0 x)) := Heap.SameBut.update _ _ _
  generalize h₂.update TO (Obj.mapSeq fun q => q.setIfInBounds 0 x) = h₃ at eTO₃ hs₃ ⊢
  refine wpAny_bind (wpAny_letGo (wpAny_pure ?_))
  -- the second one
  refine wpAny_bind (wpAny_bind (wpAny_onRaise ?_))
  show wpAny _ _ (Builtin.SmallTypes.nextOf (.ref i2) >>= _) _ _ _
  refine wpAny_bind (RZ.nextOf_tuple_item (s := { s with heap := h₃ }) (((h2.extBut hs₁.extBut D.i2z).extBut hs₂.extBut D.i12.symm).extBut hs₃.extBut D.TOi2.symm)
    (((hl2.extBut hs₁.extBut D.l2z).extBut hs₂.extBut D.l2i1).extBut hs₃.extBut D.l2TO) hy fun h₄ h2₄ hs₄ => wpAny_pure ?_)
  have hTO₄ : IsPair h₄ TO x b0 := hs₄.extBut _ _ D.TOi2 eTO₃
  refine wpAny_bind (wpAny_seqItems hTO₄ rfl ?_)
  refine wpAny_bind (wpAny_updateSeq hTO₄ rfl ?_)
  have eTO₅ := Heap.get?_update_self (Obj.mapSeq (fun q => q.setIfInBounds 1 y)) hTO₄ rfl
  have hs₅ : Heap.SameBut TO h₄ (h₄.update TO (Obj.mapSeq fun q => q.setIfInBounds 1 y)) := Heap.SameBut.update _ _ _
  generalize h₄.update TO (Obj.mapSeq fun q => q.setIfInBounds 1 y) = h₅ at eTO₅ hs₅ ⊢
  refine wpAny_bind (wpAny_letGo (wpAny_pure (wpAny_pure ?_)))
  have hTO₅ : IsPair h₅ TO x y := eTO₅
  refine wpAny_bind (wpAny_seqItems hTO₅ rfl ?_)
  refine wpAny_bind (wpAny_newTuple (hsz := (by show (2 : Nat) ≤ sizeLine; rw [sizeLine_eq]; decide)) ?_)
  have hsz : h₅.objs.size = s.heap.objs.size := by rw [hs₅.1, hs₄.1, hs₃.1, hs₂.1, hs₁.1]
  have hz₅ : h₅.get? z = some { cls := .type "zip", dict := none, data := .fields #[.ellipsis, .bool b, .bool false, .ref TI, .ref TO], slots := #[] } :=
    hs₅.extBut _ _ D.TOz.symm (hs₄.extBut _ _ D.i2z.symm (hs₃.extBut _ _ D.TOz.symm (hs₂.extBut _ _ D.i1z.symm hz₁)))
  have hk₅ : ∀ c o, c ≠ z → c ≠ TO → c ≠ i1 → c ≠ i2 → s.heap.get? c = some o → h₅.get? c = some o := fun c o c1 c2 c3 c4 e => hs₅.extBut _ _ c2 (hs₄.extBut _ _ c4 (hs₃.extBut _ _ c2 (hs₂.extBut _ _ c3 (hs₁.extBut _ _ c1 e))))
  have h1₅ : h₅.IsTupleIter i1 l1 (k1 + 1) := ((h1₂.extBut hs₃.extBut D.TOi1.symm).extBut hs₄.extBut D.i12).extBut hs₅.extBut D.TOi1.symm
  have h2₅ : h₅.IsTupleIter i2 l2 (k2 + 1) := h2₄.extBut hs₅.extBut D.TOi2.symm
  have hp : IsPair (h₅.push { cls := .type "tuple", data := .seq #[x, y] }) h₅.objs.size x y := Heap.get?_push_size _ rfl
  have pu : ∀ c o, h₅.get? c = some o → (h₅.push { cls := .type "tuple", data := .seq #[x, y] }).get? c = some o := fun c o e => Heap.get?_push_of_some _ e
  have psz : (h₅.push { cls := .type "tuple", data := .seq #[x, y] }).objs.size = s.heap.objs.size + 1 := by rw [Heap.size_push, hsz]
  show wpAny _ _ ((setField (.ref z) 0 (rawInt h₅.objs.size) >>= fun _ => setField (.ref z) 1 (.bool false)) >>= _) _ _ { s with heap := h₅.push { cls := .type "tuple", data := .seq #[x, y] } }
  rw [hsz] at hp ⊢
  generalize h₅.push { cls := .type "tuple", data := .seq #[x, y] } = h₆ at hp pu psz ⊢
  have hz₆ := pu _ _ hz₅
  have zn : s.heap.objs.size ≠ z := Nat.ne_of_gt (Heap.lt_size hz)
  refine wpAny_bind (wpAny_bind (wpAny_setField_rec (s := { s with heap := h₆ }) hz₆ (by simp) fun h₇ hz₇ hs₇ => ?_))
  refine wpAny_setField_rec (s := { s with heap := h₇ }) hz₇ (by simp) fun h₈ hz₈ hs₈ => ?_
  have k8 : ∀ c o, c ≠ z → h₆.get? c = some o → h₈.get? c = some o := fun c o c1 e => hs₈.extBut _ _ c1 (hs₇.extBut _ _ c1 e)
  have lt : ∀ {c o}, s.heap.get? c = some o → c ≠ s.heap.objs.size := fun e => Nat.ne_of_lt (Heap.lt_size e)
  refine wpAny_pure ⟨_, rfl, hQ h₈ hz₈ (k8 _ _ D.TOz (pu _ _ hTO₅)) (h1₅.at fun o e => k8 _ o D.i1z (pu _ _ e)) (h2₅.at fun o e => k8 _ o D.i2z (pu _ _ e)) (k8 _ _ zn hp) (by rw [hs₈.1, hs₇.1]; exact psz) fun c o c1 c2 c3 c4 e => k8 c o c1 (pu _ _ (hk₅ c o c1 c2 c3 c4 e))⟩
theorem zipd_next_end {z TI TO i1 i2 l1 l2 T : Addr} {b : Bool} {k1 : Nat} {xs : Array Value} {Q : Fin → Shared → Prop} (hh : A.handled = none) (D : ZipApart z TI TO i1 i2 l1 l2)
    (hz : IsZip2 s.heap z TI TO T b) (hT : s.heap.get? T = none) (hTI : IsPair s.heap TI (.ref i1) (.ref i2))
    (h1 : s.heap.IsTupleIter i1 l1 k1) (hl1 : s.heap.IsTuple l1 xs) (hx : xs[k1]? = none)
    (hE : ∀ h' e, (∀ c o, c ≠ z → c ≠ i1 → c ≠ i2 → s.heap.get? c = some o → h'.get? c = some o) → (∃ o, h'.get? e = some o ∧ o.cls = .type "StopIteration") → E (.ref e) { s with heap := h' }) :
    wpAny (model prog w) A (Builtin.«zip.__next__» ⟨[.ref z], []⟩) Q E s := by
  show wpAny _ _ (field (.ref z) 2 >>= _) _ _ _
  refine wpAny_bind (wpAny_field hz rfl (x := .bool false) rfl ?_)
  show wpAny _ _ (field (.ref z) 3 >>= _) _ _ _
  refine wpAny_bind (wpAny_field hz rfl (x := .ref TI) rfl ?_)
  refine wpAny_bind (wpAny_seqItems hTI rfl ?_)
  show wpAny _ _ (Builtin.SmallTypes.ownedTupleIsFree (.ref z) >>= _) _ _ _
  refine wpAny_bind (owned_dead hz hT ?_)
  rw [if_pos rfl]
  refine wpAny_bind (wpAny_rule ?_)
  refine wpAny_bind (wpAny_field hz rfl (x := .ref TO) rfl ?_)
  show wpAny _ _ (setField (.ref z) 0 .ellipsis >>= _) _ _ _
  refine wpAny_bind (wpAny_setField_rec hz (by simp) fun h₁ hz₁ hs₁ => ?_)
  refine wpAny_bind ?_
  simp only [List.zipIdx_cons, List.zipIdx_nil, List.forIn_cons, List.forIn_nil]
  refine wpAny_bind (wpAny_bind (wpAny_onRaise ?_))
  show wpAny _ _ (Builtin.SmallTypes.nextOf (.ref i1) >>= _) _ _ _
  refine wpAny_bind (RZ.nextOf_tuple_end hh (h1.extBut hs₁.extBut D.i1z) (hl1.extBut hs₁.extBut D.l1z) hx fun h₂ e hs₂ he => ?_)
  have hz₂ := hs₂ _ _ D.i1z.symm hz₁
  obtain ⟨o, ho, hc⟩ := he
  have ez : e ≠ z := fun q => by
    subst q
    rw [hz₂] at ho
    cases ho
    exact absurd hc (by simp)
  refine wpAny_setField_rec hz₂ (by simp) fun h₃ hz₃ hs₃ => ?_
  exact hE h₃ e (fun c o c1 c3 _ x => hs₃.extBut _ _ c1 (hs₂ _ _ c3 (hs₁.extBut _ _ c1 x))) ⟨o, hs₃.extBut _ _ ez ho, hc⟩
theorem pyNext_zipd_item {z TI TO i1 i2 l1 l2 T : Addr} {b : Bool} {k1 k2 : Nat} {xs ys : Array Value} {x y a0 b0 : Value} {Q : Option Value → Shared → Prop} (D : ZipApart z TI TO i1 i2 l1 l2)
    (hz : IsZip2 s.heap z TI TO T b) (hT : s.heap.get? T = none) (hTI : IsPair s.heap TI (.ref i1) (.ref i2)) (hTO : IsPair s.heap TO a0 b0)
    (h1 : s.heap.IsTupleIter i1 l1 k1) (h2 : s.heap.IsTupleIter i2 l2 k2) (hl1 : s.heap.IsTuple l1 xs) (hl2 : s.heap.IsTuple l2 ys) (hx : xs[k1]? = some x) (hy : ys[k2]? = some y)
    (hQ : ∀ h', IsZip2 h' z TI TO s.heap.objs.size false → IsPair h' TO x y → h'.IsTupleIter i1 l1 (k1 + 1) → h'.IsTupleIter i2 l2 (k2 + 1) → IsPair h' s.heap.objs.size x y → h'.objs.size = s.heap.objs.size + 1 →
      (∀ c o, c ≠ z → c ≠ TO → c ≠ i1 → c ≠ i2 → s.heap.get? c = some o → h'.get? c = some o) → Q (some (.ref s.heap.objs.size)) { s with heap := h' }) :
    wpAny (model prog w) A (pyNext (.ref z)) Q E s := by
  have hTy : s.TypeIs (.ref z) "zip" := ⟨_, hz, rfl⟩
  unfold pyNext
  exact wpAny_bind (wpAny_attempt (wpAny_callSpecial?_slot (name := Str.ofString "__next__") hTy F.slot_zip_next
    (wpAny_call_entry F.slot_zip_next hTy F.entry_zip_next
      (zipd_next_item D hz hT hTI hTO h1 h2 hl1 hl2 hx hy fun h' a1 a2 a3 a4 a5 a6 a7 => wpAny_pure (hQ h' a1 a2 a3 a4 a5 a6 a7)) (F.args_zip_next_1 _))))
theorem pyNext_zipd_end {z TI TO i1 i2 l1 l2 T : Addr} {b : Bool} {k1 : Nat} {xs : Array Value} {Q : Option Value → Shared → Prop} (hh : A.handled = none) (D : ZipApart z TI TO i1 i2 l1 l2)
    (hz : IsZip2 s.heap z TI TO T b) (hT : s.heap.get? T = none) (hTI : IsPair s.heap TI (.ref i1) (.ref i2))
    (h1 : s.heap.IsTupleIter i1 l1 k1) (hl1 : s.heap.IsTuple l1 xs) (hx : xs[k1]? = none)
    (hQ : ∀ h', (∀ c o, c ≠ z → c ≠ i1 → c ≠ i2 → s.heap.get? c = some o → h'.get? c = some o) → Q none { s with heap := h' }) : wpAny (model prog w) A (pyNext (.ref z)) Q E s := by
  have hTy : s.TypeIs (.ref z) "zip" := ⟨_, hz, rfl⟩
  unfold pyNext
  refine wpAny_bind (wpAny_attempt (wpAny_callSpecial?_slot (name := Str.ofString "__next__") hTy F.slot_zip_next
    (wpAny_call_entry F.slot_zip_next hTy F.entry_zip_next (zipd_next_end (A := A.in1) hh D hz hT hTI h1 hl1 hx fun h' e hk he => ?_) (F.args_zip_next_1 _))))
  obtain ⟨o, ho, hc⟩ := he
  refine wpAny_bind (wpAny_isInstance (T := "StopIteration") (b := true) ⟨o, ho, hc⟩ isSubtype_stop ?_)
  exact wpAny_pure (hQ _ hk)
end
/-- of two tuples of one length -/
def ItzE (K : PySem.W.Frag) (a b : Addr) : It :=
  ⟨fun i H => ∃ (xs ys : List V) (x y : V), SqT K H a xs ∧ SqT K H b ys ∧ xs[i]? = some x ∧ ys[i]? = some y,
    fun i H v H' => ∃ T x y, v = .ref T ∧ H T = none ∧ H' = upd H T (.tup [x, y]) ∧ (∀ xs, SqT K H a xs → xs[i]? = some x) ∧ ∀ ys, SqT K H b ys → ys[i]? = some y,
    fun i H => ∃ xs : List V, SqT K H a xs ∧ (∃ ys : List V, SqT K H b ys) ∧ xs.length ≤ i⟩
def tnN (a b z TI TO i1 i2 : Addr) : Nat → Heap → Prop := fun i h => (IsZip h z TI TO .none ∨ ∃ T c, IsZip2 h z TI TO T c) ∧ IsPair h TI (.ref i1) (.ref i2) ∧ (∃ x y, IsPair h TO x y) ∧ h.IsTupleIter i1 a i ∧ h.IsTupleIter i2 b i
theorem turn_zipN {P : Program} {w : World} {K : PySem.W.Frag} {nm : Str} {tpos : Pos} {a b z TI TO i1 i2 : Addr} (D : ZipApart z TI TO i1 i2 a b) :
    Turn P w K (.Name nm tpos) (ItzE K a b) [z, TI, TO, i1, i2] z (tnN a b z TI TO i1 i2) where
  mem := by simp
  obj := fun i h st q hq => by
    obtain ⟨h0, h1, ⟨x, y, h2⟩, ⟨o3, h3, h3c, h3d⟩, ⟨o4, h4, h4c, h4d⟩⟩ := st
    have e' : q = z ∨ q = TI ∨ q = TO ∨ q = i1 ∨ q = i2 := by simpa using hq
    rcases e' with rfl | rfl | rfl | rfl | rfl
    · rcases h0 with h0 | ⟨T, c, h0⟩
      · exact ⟨_, h0, fun v q => nomatch q⟩
      · exact ⟨_, h0, fun v q => nomatch q⟩
    · exact ⟨_, h1, fun v q => nomatch q⟩
    · exact ⟨_, h2, fun v q => nomatch q⟩
    · exact ⟨o3, h3, fun v q => by rw [h3d] at q; cases q⟩
    · exact ⟨o4, h4, fun v q => by rw [h4d] at q; cases q⟩
  keep := fun i h h' st k => by
    obtain ⟨h0, h1, ⟨x, y, h2⟩, h3, h4⟩ := st
    refine ⟨?_, k _ (by simp) _ h1, ⟨x, y, k _ (by simp) _ h2⟩, h3.at fun o q => k _ (by simp) o q, h4.at fun o q => k _ (by simp) o q⟩
    rcases h0 with h0 | ⟨T, c, h0⟩
    · exact .inl (k _ (by simp) _ h0)
    · exact .inr ⟨T, c, k _ (by simp) _ h0⟩
  item := by
    intro X hP hw hK hc i pins s σ H E I hf st hg
    subst hP hw hK
    obtain ⟨h0, h1, ⟨x0, y0, h2⟩, h3, h4⟩ := st
    obtain ⟨xs, ys, x, y, hqx, hqy, hx, hy⟩ := hg
    obtain ⟨its, rv, p, hz⟩ := I.tuple hqx
    obtain ⟨its2, rv2, p2, _⟩ := I.tuple hqy
    obtain ⟨u, hu, ru⟩ := rv.get hx
    obtain ⟨v, hv, rw'⟩ := rv2.get hy
    have hu' : its.toArray[i]? = some u := by simpa using hu
    have hv' : its2.toArray[i]? = some v := by simpa using hv
    have fr : ∀ q ∈ [z, TI, TO, i1, i2], q < s.heap.objs.size := fun q hq => by
      have e' : q = z ∨ q = TI ∨ q = TO ∨ q = i1 ∨ q = i2 := by simpa using hq
      rcases e' with rfl | rfl | rfl | rfl | rfl
      · rcases h0 with h0 | ⟨T, c, h0⟩ <;> exact Heap.lt_size h0
      · exact Heap.lt_size h1
      · exact Heap.lt_size h2
      · obtain ⟨_, q, _⟩ := h3; exact Heap.lt_size q
      · obtain ⟨_, q, _⟩ := h4; exact Heap.lt_size q
    have fin : ∀ (h' : Heap), (IsZip h' z TI TO .none ∨ ∃ T c, IsZip2 h' z TI TO T c) → (∃ x y, IsPair h' TO x y) → h'.IsTupleIter i1 a (i + 1) → h'.IsTupleIter i2 b (i + 1) → IsPair h' s.heap.objs.size u v → h'.objs.size = s.heap.objs.size + 1 →
        (∀ c o, c ≠ z → c ≠ TO → c ≠ i1 → c ≠ i2 → s.heap.get? c = some o → h'.get? c = some o) →
        ∃ u0, some (Value.ref s.heap.objs.size) = some u0 ∧ wpAny (model X.prog X.w) X.A (letOwnedTupleGo (.Name nm tpos) (.ref z) u0) (fun _ s2 => ∃ v H', Inv X pins σ H' s2 ∧ RelV v u0 ∧ (ItzE X.K a b).yld i H v H' ∧ tnN a b z TI TO i1 i2 (i + 1) s2.heap ∧ ∀ q ∈ [z, TI, TO, i1, i2], H' q = none) E { s with heap := h' } := by
      intro h' a1 a2 a3 a4 a5 a6 a7
      refine ⟨_, rfl, wpAny_pure ?_⟩
      have new : ObjOk X.prog X.w (upd H s.heap.objs.size (.tup [x, y])) h' s.heap.objs.size (.tup [x, y]) :=
        ⟨by show 2 ≤ sizeLine; decide, [u, v], .cons ru (.cons rw' .nil), ⟨_, a5, rfl, _, rfl⟩⟩
      have I1 : Inv X pins σ (upd H s.heap.objs.size (.tup [x, y])) { s with heap := h' } :=
        I.turnedNew (ch := [z, TO, i1, i2]) (fun q ob hb e => a7 q ob (fun y => hb (by simp [y])) (fun y => hb (by simp [y])) (fun y => hb (by simp [y])) (fun y => hb (by simp [y])) e) (fun q hq => hf q (by simp at hq ⊢; rcases hq with h | h | h | h <;> simp [h])) (Nat.le_refl _) new
      refine ⟨.ref s.heap.objs.size, _, I1, rfl, ⟨_, x, y, rfl, I.hok.fresh (Nat.le_refl _), rfl, fun zs hz => by rw [I.tuple_inj hz hqx]; exact hx, fun zs hz => by rw [I.tuple_inj hz hqy]; exact hy⟩, ⟨a1, a7 _ _ D.TIz D.TITO D.TIi1 D.TIi2 h1, a2, a3, a4⟩, fun q hq => ?_⟩
      rw [upd_ne (Nat.ne_of_lt (fr q hq))]
      exact (hf q hq).1
    rcases h0 with h0 | ⟨T, c, h0⟩
    · exact RZ.pyNext_zipT_item D h0 h1 h2 h3 h4 p p2 hu' hv' fun h' a1 a2 a3 a4 a5 a6 a7 => fin h' (.inr ⟨_, _, a1⟩) ⟨_, _, a2⟩ a3 a4 a5 a6 a7
    · cases hT : s.heap.get? T with
      | none => exact pyNext_zipd_item D h0 hT h1 h2 h3 h4 p p2 hu' hv' fun h' a1 a2 a3 a4 a5 a6 a7 => fin h' (.inr ⟨_, _, a1⟩) ⟨_, _, a2⟩ a3 a4 a5 a6 a7
      | some oT => exact pyNext_zip2_item D h0 hT h1 h3 h4 p p2 hu' hv' fun h' a1 a3 a4 a5 a6 a7 => fin h' (.inr ⟨_, _, a1⟩) ⟨_, _, a7 _ _ D.TOz D.TOi1 D.TOi2 h2⟩ a3 a4 a5 a6 fun c o c1 _ c3 c4 e => a7 c o c1 c3 c4 e
  done := by
    intro X hP hw hK hc i pins s σ H E I hf st hg
    subst hP hw hK
    obtain ⟨h0, h1, ⟨x0, y0, h2⟩, h3, h4⟩ := st
    obtain ⟨xs, hqx, ⟨ys, hqy⟩, hx⟩ := hg
    obtain ⟨its, rv, p, hz⟩ := I.tuple hqx
    obtain ⟨its2, rv2, p2, _⟩ := I.tuple hqy
    have hl := rv.length
    have hn : its.toArray[i]? = none := by simp; omega
    have fin : ∀ (h' : Heap), (∀ c o, c ≠ z → c ≠ TO → c ≠ i1 → c ≠ i2 → s.heap.get? c = some o → h'.get? c = some o) → (none : Option Value) = none ∧ Inv X pins σ H { s with heap := h' } := fun h' a7 =>
      ⟨rfl, I.turnedL (ch := [z, TO, i1, i2]) (t' := s.toks) (fun q ob hb e => a7 q ob (fun y => hb (by simp [y])) (fun y => hb (by simp [y])) (fun y => hb (by simp [y])) (fun y => hb (by simp [y])) e) (fun q hq => hf q (by simp at hq ⊢; rcases hq with h | h | h | h <;> simp [h]))⟩
    rcases h0 with h0 | ⟨T, c, h0⟩
    · exact RZ.pyNext_zipT_end (I.ok.hd hc) D h0 h1 h2 h3 h4 p p2 (.inl hn) fun h' a7 => fin h' a7
    · cases hT : s.heap.get? T with
      | none => exact pyNext_zipd_end (I.ok.hd hc) D h0 hT h1 h3 p hn fun h' a7 => fin h' fun c o c1 _ c3 c4 e => a7 c o c1 c3 c4 e
      | some oT => exact pyNext_zip2_end (I.ok.hd hc) D h0 hT h1 h3 p hn fun h' a7 => fin h' fun c o c1 _ c3 c4 e => a7 c o c1 c3 c4 e
  self := fun A i s Q E st h => by
    obtain ⟨h0, _⟩ := st
    have hTy : s.TypeIs (.ref z) "zip" := by
      rcases h0 with h0 | ⟨T, c, h0⟩
      · exact ⟨_, h0, rfl⟩
      · exact ⟨_, h0, rfl⟩
    refine wpAny_pyIter_slot hTy F.slot_zip_iter (wpAny_call_entry F.slot_zip_iter hTy F.entry_zip_iter ?_ (F.args_zip_iter_1 _))
    exact wpAny_pure ⟨_, rfl, "zip", _, hTy, F.slot_zip_next.lookup, h⟩
def iZipN (K : PySem.W.Frag) (ta : TA) : TI := fun σ H R => ta σ H fun vs H1 => ∃ (a b : Addr) (xs ys : List V), vs = [.ref a, .ref b] ∧ SqT K H1 a xs ∧ SqT K H1 b ys ∧ xs.length = ys.length ∧ R (ItzE K a b) H1
theorem pi_zipN {X : Cx} {e e2 : Expr} {ta : TA} {p pos tpos : Pos} {nm : Str} (hg : Gl X "zip") (hm : X.mg "zip" = none) (ha : PA X [e, e2] ta)
    (na : starEach [e, e2] X.env = (false, eval e X.env) :: starEach [e2] X.env) (nb : (backTo pos (starEach [e2] X.env)).any (·.1) = false) :
    PI X (.Name nm tpos) (.Call (.Name "zip" p) [e, e2] [] pos) (iZipN X.K ta) := by
  refine ⟨fun pins s σ H R I h => ?_⟩
  refine Call_ (ld_blt I hg hm (by decide +kernel : bootBuiltins "zip" = some (.type "zip")) ?_)
  refine PyProof.Rows.callWith_type1 (thn (ha.run pos pins s σ H _ I h) fun us s1 ⟨vs, H1, I1, r1, q1⟩ => ?_) na nb
  obtain ⟨a, b, xs, ys, rfl, hqx, hqy, hl, q1⟩ := q1
  cases r1 with
  | cons r rr =>
    cases rr with
    | cons r' rr =>
      cases rr
      cases r
      cases r'
      obtain ⟨its, rv, p1, hz1⟩ := I1.tuple hqx
      obtain ⟨its2, rv2, p2, _⟩ := I1.tuple hqy
      obtain ⟨o1, e1, c1, n1, d1⟩ := id p1
      obtain ⟨o2, e2, c2, n2, d2⟩ := id p2
      have la : a < s1.heap.objs.size := Heap.lt_size e1
      have lb : b < s1.heap.objs.size := Heap.lt_size e2
      refine RZ.call_zipT (hl1 := p1) (hl2 := p2) fun h' hz hTI hTO h1 h2 hsz hk => ?_
      have D := PySem.W.ktu_apart s1.heap.objs.size a b la lb
      have T := turn_zipN (P := X.prog) (w := X.w) (K := X.K) (nm := nm) (tpos := tpos) D
      have I2 : Inv X pins σ H1 { s1 with heap := h' } := I1.kept (t' := s1.toks) hk
      refine wpAny_pyIter_zip hz ?_
      refine ⟨s1.heap.objs.size + 4, _, _, _, H1, rfl, I2, T, ⟨.inl hz, hTI, ⟨_, _, hTO⟩, h1, h2⟩, fun q hq => ?_, q1⟩
      have hle : s1.heap.objs.size ≤ q := by
        have e' : q = s1.heap.objs.size + 4 ∨ q = s1.heap.objs.size + 2 ∨ q = s1.heap.objs.size + 3 ∨ q = s1.heap.objs.size ∨ q = s1.heap.objs.size + 1 := by simpa using hq
        rcases e' with z | z | z | z | z <;> rw [z] <;> first
          | exact Nat.le_add_right _ _
          | exact Nat.le_refl _
      exact I1.fpOk hle (I1.hok.fresh hle)
/-! ### {k: v}, k a tuple -/
def tDispT (te tv : TE) : TE := fun σ H Q => ∀ p, H p = none → te σ (upd H p (.dT [])) fun x H1 => tv σ H1 fun y H2 => H2 p = some (.dT []) ∧ ∃ (b : Addr) (js : List Key), x = .ref b ∧ H2 b = some (.tup (js.map kV)) ∧ Q (.ref p) (upd H2 p (.dT [(js, y)]))
theorem pe_dispT {X : Cx} {a b : Expr} {te tv : TE} {pos : Pos} (ha : PE X a te) (hb : PE X b tv) (hu : X.A.units < cLine) : PE X (.Dict [some a] [b] pos) (tDispT te tv) := by
  refine ⟨fun pins s σ H Q I h => ?_⟩
  refine wpAny_Dict_any rfl rfl (by simp) (by simp) ?_
  have fresh : H s.heap.objs.size = none := I.hok.fresh (Nat.le_refl _)
  have nsm : (s.heap.objs.size == sysModules) = false := by
    rw [beq_eq_false_iff_ne]
    exact Nat.ne_of_gt I.big
  have I1 : Inv X pins σ (upd H s.heap.objs.size (.dT [])) { s with heap := s.heap.push { cls := .type "dict", data := .dict #[] } } :=
    I.laid (t' := s.toks) (fun b u e => Heap.get?_push_of_some _ e) (Nat.le_refl _) (by
      unfold ObjOk
      exact ⟨Nat.zero_le _, nsm, [], .nil, _, #[], _, Heap.get?_push_size _ rfl, ⟨rfl, rfl, rfl⟩, rfl, rfl, List.nodup_nil⟩)
  refine thn ((pps_cons ha hb pps_nil).run pins _ σ _ (fun ps H' => match ps with
    | [(x, y)] => H' s.heap.objs.size = some (.dT []) ∧ ∃ (b : Addr) (js : List Key), x = .ref b ∧ H' b = some (.tup (js.map kV)) ∧ Q (.ref s.heap.objs.size) (upd H' s.heap.objs.size (.dT [(js, y)]))
    | _ => False) I1 ?_) fun vs s1 ⟨ps, H2, I2, vv, q⟩ => ?_
  · have q := h _ fresh
    unfold tPairs
    unfold tPairs
    exact q
  · have one : ∀ (ps : List (V × V)), (match ps with
        | [(x, y)] => H2 s.heap.objs.size = some (.dT []) ∧ ∃ (b : Addr) (js : List Key), x = .ref b ∧ H2 b = some (.tup (js.map kV)) ∧ Q (.ref s.heap.objs.size) (upd H2 s.heap.objs.size (.dT [(js, y)]))
        | _ => False) → VV ps vs → ∃ x y k0 v0, vs = [(k0, v0)] ∧ RelV x k0 ∧ RelV y v0 ∧ H2 s.heap.objs.size = some (.dT []) ∧ ∃ (b : Addr) (js : List Key), x = .ref b ∧ H2 b = some (.tup (js.map kV)) ∧ Q (.ref s.heap.objs.size) (upd H2 s.heap.objs.size (.dT [(js, y)])) := fun ps q vv => by
      rcases ps with _ | ⟨⟨x, y⟩, _ | ⟨_, _⟩⟩
      · exact q.elim
      · cases vv with
        | cons r rr =>
          cases rr
          exact ⟨x, y, _, _, rfl, r.1, r.2, q⟩
      · exact q.elim
    obtain ⟨x, y, k0, v0, rfl, r1, r2, hp, c, js, rfl, hc, q⟩ := one ps q vv
    clear one
    have r1 : k0 = .ref c := r1
    subst r1
    generalize s.heap.objs.size = p at *
    unfold storeAll
    simp only [List.forIn_cons, List.forIn_nil]
    refine wpAny_bind ?_
    obtain ⟨z1, z2, xs, kt, D⟩ := dt_of I2.hok hp
    cases kt
    have cp : c ≠ p := fun e => by subst e; rw [hp] at hc; cases hc
    refine wpAny_bind (wpAny_dictSet_heap (knd := tupleKind (mixKind X.prog X.w)) (k := js) hu (key_of I2.hok hc) D (fun h' D' sb => ?_) (by simp))
    refine wpAny_pure (wpAny_pure ?_)
    have I3 : Inv X pins σ (upd H2 p (.dT [(js, y)])) { s1 with heap := h', toks := s1.toks + (tupleKind (mixKind X.prog X.w)).draws js } :=
      I2.write (x := p) (e := p) (by rw [hp]; trivial) (.inl rfl) (fun b u e he => sb.extBut _ _ e he) (by obtain ⟨o, _, _, e, _⟩ := D'; exact ⟨o, e⟩) (by
        obtain ⟨o, es, ep, e1, e2, e3, e4, e5, e6⟩ := D'
        unfold ObjOk
        exact ⟨by show 1 ≤ sizeLine; rw [sizeLine_eq]; decide, z2, [(js, c, v0)], .cons ⟨rfl, by rw [upd_ne cp]; exact hc, r2⟩ .nil, o, es, ep, e1, e2, e3, e4, e6⟩)
    exact ⟨.ref p, _, I3, rfl, q⟩
end L3
set_option maxRecDepth 100000
/-! L3Ops: each operator, built-in function and method keeps the interpreter's word. -/
namespace L3
open PySem PySem.Spec PyProof.Rows L2

/-- the value that is handed on -/
abbrev PV1 (g : G) (Q : VK) : PP PV := fun α H v _ => ∀ w, RV g.K α H v w → Q w H
def LR (g : G) (f : PV → PV → Store → R PV) : R2 := fun w1 w2 H Q => ∃ α S x y E, Rep g α S H ∧ RV g.K α H x w1 ∧ RV g.K α H y w2 ∧ Wp g (f x y S) α H (PV1 g Q) E
abbrev gx (X : Cx) (cl fa : Nat → Addr) : G := ⟨X.K, cl, fa⟩

theorem nsz_eq : nsz = sizeLine := sizeLine_eq.symm
theorem toStr_len (x : Sy) : (toStr x).length = x.length := by simp [Str.length]
theorem toStr_app (a b : Sy) : toStr a ++ toStr b = toStr (a ++ b) := by
  show Str.append _ _ = _
  simp [Str.append]
section
variable {X : Cx} {cl fa : Nat → Addr} {α : List Addr} {S : Store} {H : Hp} {E : PP Exn} {Q : VK}
/-- the result is a value of the same store -/
theorem Wp.same {v : PV} {w : V} (h : Wp (gx X cl fa) (.ok v S) α H (PV1 (gx X cl fa) Q) E) (hr : Rep (gx X cl fa) α S H) (r : RV X.K α H v w) : Q w H := h.ok hr w r
/-- .. a new tuple -/
theorem Wp.tup {xs : List PV} {vs : List V} (h : Wp (gx X cl fa) (.ok (.tup xs) S) α H (PV1 (gx X cl fa) Q) E) (hr : Rep (gx X cl fa) α S H) (r : RVs X.K α H xs vs) : ∀ p, H p = none → Q (.ref p) (upd H p (.tup vs)) := fun p hp =>
  h.okE (Ext.new hp _) (hr.new hp _) _ ⟨p, vs, rfl, upd_same, r.ext (Ext.new hp _)⟩
/-- .. a new list -/
theorem Wp.lst {xs : List PV} {vs : List V} (h : Wp (gx X cl fa) (.ok (.ref S.length) (S ++ [.lst xs])) α H (PV1 (gx X cl fa) Q) E) (hr : Rep (gx X cl fa) α S H) (r : RVs X.K α H xs vs) : ∀ p, H p = none → Q (.ref p) (upd H p (.lst vs)) := fun p hp => by
  have e := Ext.push hr hp (.lst vs)
  exact h.okE e (hr.push hp ⟨vs, upd_same, r.ext e⟩) _ ⟨p, by rw [← hr.len]; simp, rfl⟩
theorem Rep.list (hr : Rep (gx X cl fa) α S H) {n : Nat} {xs : List PV} {v : V} (h : S[n]? = some (.lst xs)) (r : RV X.K α H (.ref n) v) : ∃ a vs, v = .ref a ∧ α[n]? = some a ∧ H a = some (.lst vs) ∧ RVs X.K α H xs vs := by
  obtain ⟨a, ha, rfl⟩ := r
  obtain ⟨vs, h1, h2⟩ := hr.at h ha
  exact ⟨a, vs, rfl, ha, h1, h2⟩

theorem o_add : OpR X (binaryOp .Add) (LR (gx X cl fa) (bop .add)) := by
  intro pins s σ H w1 w2 v u Q I rx ry ⟨α, S, x, y, E, hr, h1, h2, h⟩
  cases x <;> cases y <;> first
    | exact h.elim
    | skip
  · cases h1; cases h2
    exact op_add pins s σ H _ _ v u Q I rx ry ⟨_, _, rfl, rfl, h.same hr rfl⟩
  · cases h1; cases h2
    rename_i a b
    simp only [bop] at h
    split at h
    · rename_i hl
      refine op_add_str pins s σ H _ _ v u Q I rx ry ⟨_, _, rfl, rfl, by rw [toStr_len, toStr_len, ← nsz_eq]; exact hl, ?_⟩
      rw [toStr_app]
      exact h.same hr rfl
    · exact h.elim
  · obtain ⟨a, vs, rfl, s1, r1⟩ := h1
    obtain ⟨b, ws, rfl, s2, r2⟩ := h2
    rename_i xs ys
    simp only [bop] at h
    split at h
    · rename_i hl
      have l1 := r1.length
      have l2 := r2.length
      refine op_catA pins s σ H _ _ v u Q I rx ry ⟨a, b, vs, ws, rfl, rfl, SqT.of s1, SqT.of s2, by rw [← l1, ← l2, ← nsz_eq]; exact hl, fun e => ?_, fun _ e => ?_, fun _ _ => ?_⟩
      · subst e
        have : xs = [] := List.length_eq_zero_iff.mp l1
        subst this
        exact h.same hr ⟨b, ws, rfl, s2, r2⟩
      · subst e
        have : ys = [] := List.length_eq_zero_iff.mp l2
        subst this
        rw [List.append_nil] at h
        exact h.same hr ⟨a, vs, rfl, s1, r1⟩
      · exact h.tup hr (r1.append r2)
    · exact h.elim
  · rename_i p q
    simp only [bop] at h
    split at h
    · rename_i xs ys hp hq
      split at h
      · rename_i hl
        obtain ⟨a, vs, rfl, ha, e1, r1⟩ := hr.list hp h1
        obtain ⟨b, ws, rfl, hb, e2, r2⟩ := hr.list hq h2
        have l1 := r1.length
        have l2 := r2.length
        exact op_cat pins s σ H _ _ v u Q I rx ry ⟨a, b, vs, ws, rfl, rfl, e1, e2, by rw [← l1, ← l2, ← nsz_eq]; exact hl, h.lst hr (r1.append r2)⟩
      · exact h.elim
    · exact h.elim
theorem o_sub : OpR X (binaryOp .Sub) (LR (gx X cl fa) (bop .sub)) := by
  intro pins s σ H w1 w2 v u Q I rx ry ⟨α, S, x, y, E, hr, h1, h2, h⟩
  cases x <;> cases y <;> first
    | exact h.elim
    | skip
  · cases h1; cases h2
    exact opR_subB pins s σ H _ _ v u Q I rx ry ⟨_, _, rfl, rfl, h.same hr rfl⟩
  · cases h1; cases h2
    exact op_sub pins s σ H _ _ v u Q I rx ry ⟨_, _, rfl, rfl, h.same hr rfl⟩
theorem rep_str (z : Sy) (k : Nat) : (List.replicate k (toStr z).cps).foldl (· ++ ·) #[] = (List.replicate k z).flatten.toArray := by
  have key : ∀ (k : Nat) (acc : Sy), (List.replicate k (toStr z).cps).foldl (· ++ ·) acc.toArray = (acc ++ (List.replicate k z).flatten).toArray := by
    intro k
    induction k with
    | zero => intro acc; simp
    | succ k ih =>
      intro acc
      rw [List.replicate_succ, List.replicate_succ, List.foldl_cons, List.flatten_cons]
      have : acc.toArray ++ (toStr z).cps = (acc ++ z).toArray := by simp
      rw [this, ih, List.append_assoc]
  have := key k []
  simpa using this
theorem op_repS : OpR X (binaryOp .Mult) (fun x y H Q => ∃ (z : Sy) (k : Int), x = .str (toStr z) ∧ y = .int k ∧ -(2 ^ 63) ≤ k ∧ k < 2 ^ 63 ∧ z.length * k.toNat ≤ nsz ∧ Q (.str (toStr (List.replicate k.toNat z).flatten)) H) := by
  intro pins s σ H x y v u Q I rx ry h
  obtain ⟨z, k, rfl, rfl, h1, h2, h3, q⟩ := h
  obtain ⟨t, rfl⟩ := rx
  obtain ⟨t2, rfl⟩ := ry
  have lz : (toStr z).length = z.length := toStr_len z
  have hn : z.length * k.toNat ≤ 16777216 := h3
  have lf : (List.replicate k.toNat z).flatten.length = k.toNat * z.length := by
    rw [List.length_flatten, List.map_replicate, List.sum_replicate_nat]
  have hfit : (toStr (List.replicate k.toNat z).flatten).length ≤ sizeLine := by
    rw [toStr_len, lf, sizeLine_eq, Nat.mul_comm]
    exact hn
  refine PySem.P.mul_str ?_ (fun hk _ => ?_) (fun _ _ => ?_) ?_
  · rw [decide_eq_false (by omega), decide_eq_false (by omega)]
    rfl
  · rw [lz]
    have hk : 1 ≤ k := by omega
    have : ((z.length : Nat) : Int) * k ≤ 16777216 := by
      have hq := Int.ofNat_le.mpr hn
      rw [Int.natCast_mul, Int.toNat_of_nonneg (by omega)] at hq
      exact Int.le_trans hq (by decide)
    have h4 : ((z.length : Nat) : Int) ≤ (2 ^ 63 - 1) / k := by
      rw [Int.le_ediv_iff_mul_le (by omega)]
      omega
    omega
  · rw [lz]
    exact PyProof.Rows.short24 hn
  · split
    · rename_i hk
      have e : k.toNat = 0 := by omega
      rw [e] at q
      exact ⟨by decide, .str _, H, I.tok _, ⟨_, rfl⟩, q⟩
    · split
      · rename_i hk2
        have e : (List.replicate k.toNat z).flatten = z := by
          simp only [Bool.or_eq_true, beq_iff_eq] at hk2
          rcases hk2 with hk2 | hk2
          · rw [hk2]
            simp
          · rw [lz] at hk2
            have : z = [] := List.eq_nil_of_length_eq_zero hk2
            subst this
            simp
        rw [e] at q
        exact ⟨.str _, H, I, ⟨_, rfl⟩, q⟩
      · rw [rep_str]
        exact ⟨hfit, .str _, H, I.tok _, ⟨_, rfl⟩, q⟩
theorem o_mul : OpR X (binaryOp .Mult) (LR (gx X cl fa) (bop .mul)) := by
  intro pins s σ H w1 w2 v u Q I rx ry ⟨α, S, x, y, E, hr, h1, h2, h⟩
  cases x <;> cases y <;> first
    | exact h.elim
    | skip
  · cases h1; cases h2
    rename_i i j
    simp only [bop] at h
    split at h
    · rename_i hl
      exact op_mul pins s σ H _ _ v u Q I rx ry ⟨_, _, rfl, rfl, hl, h.same hr rfl⟩
    · exact h.elim
  · cases h1; cases h2
    simp only [bop] at h
    split at h
    · rename_i hl
      exact op_repS pins s σ H _ _ v u Q I rx ry ⟨_, _, rfl, rfl, hl.1, hl.2.1, hl.2.2, h.same hr rfl⟩
    · exact h.elim
  · obtain ⟨a, vs, rfl, s1, r1⟩ := h1
    cases h2
    rename_i xs k
    simp only [bop] at h
    split at h
    · rename_i hl
      obtain ⟨h0, k1, k2, k3⟩ := hl
      have l1 := r1.length
      refine op_repT pins s σ H _ _ v u Q I rx ry ⟨a, k, vs, rfl, rfl, SqT.of s1, fun e => h0 ?_, k1, k2, by omega, h.tup hr (r1.rep _)⟩
      subst e
      exact List.length_eq_zero_iff.mp l1
    · exact h.elim
  · rename_i p k
    cases h2
    simp only [bop] at h
    split at h
    · rename_i xs hp
      split at h
      · rename_i hl
        obtain ⟨k1, k2, k3⟩ := hl
        obtain ⟨a, vs, rfl, ha, e1, r1⟩ := hr.list hp h1
        have l1 := r1.length
        exact op_rep pins s σ H _ _ v u Q I rx ry ⟨a, k, vs, rfl, rfl, e1, k1, k2, by rw [← l1, ← nsz_eq]; exact k3, h.lst hr (r1.rep _)⟩
      · exact h.elim
    · exact h.elim
theorem o_fdiv : OpR X (binaryOp .FloorDiv) (LR (gx X cl fa) (bop .fdiv)) := by
  intro pins s σ H w1 w2 v u Q I rx ry ⟨α, S, x, y, E, hr, h1, h2, h⟩
  cases x <;> cases y <;> first
    | exact h.elim
    | skip
  cases h1; cases h2
  simp only [bop] at h
  split at h
  · rename_i hl
    exact op_fdiv pins s σ H _ _ v u Q I rx ry ⟨_, _, rfl, rfl, hl, h.same hr rfl⟩
  · exact h.elim
theorem o_mod : OpR X (binaryOp .Mod) (LR (gx X cl fa) (bop .mod)) := by
  intro pins s σ H w1 w2 v u Q I rx ry ⟨α, S, x, y, E, hr, h1, h2, h⟩
  cases x <;> cases y <;> first
    | exact h.elim
    | skip
  cases h1; cases h2
  simp only [bop] at h
  split at h
  · rename_i hl
    exact op_mod pins s σ H _ _ v u Q I rx ry ⟨_, _, rfl, rfl, hl, h.same hr rfl⟩
  · exact h.elim
theorem o_pow : OpR X (binaryOp .Pow) (LR (gx X cl fa) (bop .pow)) := by
  intro pins s σ H w1 w2 v u Q I rx ry ⟨α, S, x, y, E, hr, h1, h2, h⟩
  cases x <;> cases y <;> first
    | exact h.elim
    | skip
  cases h1; cases h2
  simp only [bop] at h
  split at h
  · rename_i hl
    exact op_pow pins s σ H _ _ v u Q I rx ry ⟨_, _, rfl, rfl, hl, h.same hr rfl⟩
  · exact h.elim
def bopO : BOp → Operator
  | .add => .Add | .sub => .Sub | .mul => .Mult | .fdiv => .FloorDiv | .mod => .Mod | .pow => .Pow
theorem o_bop (op : BOp) : OpR X (binaryOp (bopO op)) (LR (gx X cl fa) (bop op)) := by
  cases op
  · exact o_add
  · exact o_sub
  · exact o_mul
  · exact o_fdiv
  · exact o_mod
  · exact o_pow

/-! ### truth -/
theorem tru_of (hr : Rep (gx X cl fa) α S H) {x : PV} {v : V} {k : Bool} (r : RV X.K α H x v) (h : truthy S x = some k) : TruV X.K v H k := by
  cases x with
  | non => cases r; cases h; exact rfl
  | bl b => cases r; cases h; exact rfl
  | int i => cases r; cases h; exact rfl
  | str y =>
    cases r
    simp only [truthy] at h
    split at h
    · rename_i hl
      cases h
      refine ⟨by rw [toStr_len, ← nsz_eq]; exact hl, ?_⟩
      rw [toStr_len]
      cases y <;> simp
      omega
    · cases h
  | tup xs =>
    obtain ⟨a, vs, rfl, s1, r1⟩ := r
    cases h
    refine .inr (.inl ⟨vs, SqT.of s1, ?_⟩)
    have := r1.length
    cases xs <;> cases vs <;> simp_all
  | rot xs =>
    obtain ⟨a, vs, rfl, s1, r1⟩ := r
    cases h
    refine .inr (.inl ⟨vs, s1, ?_⟩)
    have := r1.length
    cases xs <;> cases vs <;> simp_all
  | rol xs =>
    obtain ⟨a, vs, rfl, s1, r1⟩ := r
    cases h
    refine .inl ⟨vs, s1.l, ?_⟩
    have := r1.length
    cases xs <;> cases vs <;> simp_all
  | ref n =>
    simp only [truthy] at h
    split at h
    · rename_i xs hp
      cases h
      obtain ⟨a, vs, rfl, ha, e1, r1⟩ := hr.list hp r
      refine .inl ⟨vs, SqL.of e1, ?_⟩
      have := r1.length
      cases xs <;> cases vs <;> simp_all
    · cases h

/-! ### equality of data -/
mutual
theorem pD_ok : ∀ (x : PV) (v : V) (d : PyData), RV X.K α H x v → pD x = some d → Dp X.K H v d ∧ d.canLay0 = true
  | .non, v, d, r, h => by
    cases r
    simp only [pD, Option.some.injEq] at h
    subst h
    exact ⟨.non, rfl⟩
  | .bl b, v, d, r, h => by
    cases r
    simp only [pD, Option.some.injEq] at h
    subst h
    exact ⟨.bl b, rfl⟩
  | .int i, v, d, r, h => by
    cases r
    simp only [pD, Option.some.injEq] at h
    subst h
    exact ⟨.int i, rfl⟩
  | .str x, v, d, r, h => by
    cases r
    simp only [pD] at h
    split at h
    · rename_i hv
      simp only [Option.some.injEq] at h
      subst h
      exact ⟨.str _, by simpa [PyData.canLay0, PyData.strOk] using hv⟩
    · cases h
  | .tup xs, v, d, r, h => by
    obtain ⟨a, vs, rfl, s1, r1⟩ := r
    simp only [pD, Option.map_eq_some_iff] at h
    obtain ⟨ds, h1, rfl⟩ := h
    obtain ⟨q1, q2⟩ := pDs_ok xs vs ds r1 h1
    exact ⟨.tup (SqT.of s1) q1, by simpa [PyData.canLay0] using q2⟩
  | .rot xs, v, d, r, h => by
    obtain ⟨a, vs, rfl, s1, r1⟩ := r
    simp only [pD, Option.map_eq_some_iff] at h
    obtain ⟨ds, h1, rfl⟩ := h
    obtain ⟨q1, q2⟩ := pDs_ok xs vs ds r1 h1
    exact ⟨.tup s1 q1, by simpa [PyData.canLay0] using q2⟩
  | .rol xs, v, d, r, h => by
    obtain ⟨a, vs, rfl, s1, r1⟩ := r
    simp only [pD, Option.map_eq_some_iff] at h
    obtain ⟨ds, h1, rfl⟩ := h
    obtain ⟨q1, q2⟩ := pDs_ok xs vs ds r1 h1
    exact ⟨.lst s1.l q1, by simpa [PyData.canLay0] using q2⟩
  | .ref p, v, d, r, h => by simp [pD] at h
theorem pDs_ok : ∀ (xs : List PV) (vs : List V) (ds : List PyData), RVs X.K α H xs vs → pDs xs = some ds → DpAll X.K H vs ds ∧ PyData.canLayAll0 ds = true
  | [], vs, ds, r, h => by
    cases r
    simp only [pDs, Option.some.injEq] at h
    subst h
    exact ⟨.nil, rfl⟩
  | x :: xs, vs, ds, r, h => by
    obtain ⟨w, ws, rfl, r1, r2⟩ := r
    simp only [pDs] at h
    split at h
    · rename_i d es hd he
      cases h
      obtain ⟨p1, p2⟩ := pD_ok x w d r1 hd
      obtain ⟨q1, q2⟩ := pDs_ok xs ws es r2 he
      exact ⟨.cons p1 q1, by simp [PyData.canLayAll0, p2, q2]⟩
    · cases h
end
theorem toD_ok (hr : Rep (gx X cl fa) α S H) (x : PV) (v : V) (d : PyData) (r : RV X.K α H x v) (h : toD S x = some d) : Dp X.K H v d ∧ d.canLay0 = true := by
  cases x with
  | ref p =>
    simp only [toD] at h
    split at h
    · rename_i xs hp
      simp only [Option.map_eq_some_iff] at h
      obtain ⟨ds, h1, rfl⟩ := h
      obtain ⟨a, vs, rfl, ha, e1, r1⟩ := hr.list hp r
      obtain ⟨q1, q2⟩ := pDs_ok xs vs ds r1 h1
      exact ⟨.lst (SqL.of e1) q1, by simpa [PyData.canLay0] using q2⟩
    · cases h
  | _ => exact pD_ok _ v d r h
theorem shaped_of {n : Nat} {d : PyData} (h : n ≤ 64) (a : d.canLay0 = true) (b : d.depth ≤ n) : SeqAt.shaped d = true := by
  unfold SeqAt.shaped
  simp only [Bool.and_eq_true, decide_eq_true_eq]
  exact ⟨a, by omega⟩
theorem str_inj {a b : Sy} : (toStr a = toStr b) ↔ a = b := by
  constructor
  · intro h
    have := congrArg Str.cps h
    simpa using this
  · rintro rfl; rfl
theorem pyEq_cases {x y : PV} {k : Bool} (h : pyEq S x y = some k) : (∃ a b, x = .str a ∧ y = .str b ∧ k = (a == b)) ∨ ∃ d e, toD S x = some d ∧ toD S y = some e ∧ d.depth ≤ 60 ∧ e.depth ≤ 60 ∧ PyData.eqv d e = k := by
  unfold pyEq at h
  split at h
  · cases h
    exact .inl ⟨_, _, rfl, rfl, rfl⟩
  · split at h
    · rename_i d e hd he
      split at h
      · rename_i hl
        cases h
        exact .inr ⟨d, e, hd, he, hl.1, hl.2, rfl⟩
      · cases h
    · cases h
/-- a comparison's reading -/
def LC (g : G) (f : PV → PV → Store → Option Bool) : R2 := fun w1 w2 H Q => ∃ α S x y k, Rep g α S H ∧ RV g.K α H x w1 ∧ RV g.K α H y w2 ∧ f x y S = some k ∧ Q (.bl k) H
theorem dec_strS (a b : Sy) : decide (V.str (toStr a) = V.str (toStr b)) = (a == b) := by
  rw [Bool.eq_iff_iff]
  simp only [decide_eq_true_eq, V.str.injEq, beq_iff_eq]
  exact str_inj
theorem o_eq (hu : X.A.units + 64 < cLine) : OpR X (compareOp .Eq) (LC (gx X cl fa) (cop .eq)) := by
  intro pins s σ H w1 w2 v u Q I rx ry ⟨α, S, x, y, k, hr, h1, h2, h, q⟩
  rcases pyEq_cases (show pyEq S x y = some k from h) with ⟨a, b, rfl, rfl, rfl⟩ | ⟨d, e, hd, he, p3, q3, rfl⟩
  · cases h1; cases h2
    refine op_eq pins s σ H _ _ v u Q I rx ry ⟨rfl, ?_⟩
    rw [dec_strS]
    exact q
  · obtain ⟨p1, p2⟩ := toD_ok hr x w1 d h1 hd
    obtain ⟨q1, q2⟩ := toD_ok hr y w2 e h2 he
    exact op_eqD hu pins s σ H _ _ v u Q I rx ry ⟨d, e, p1, q1, shaped_of (by decide) p2 p3, shaped_of (by decide) q2 q3, q⟩
theorem o_ne (hu : X.A.units + 64 < cLine) : OpR X (compareOp .NotEq) (LC (gx X cl fa) (cop .ne)) := by
  intro pins s σ H w1 w2 v u Q I rx ry ⟨α, S, x, y, k, hr, h1, h2, h, q⟩
  have h : (pyEq S x y).map (!·) = some k := h
  simp only [Option.map_eq_some_iff] at h
  obtain ⟨k, h', rfl⟩ := h
  rcases pyEq_cases h' with ⟨a, b, rfl, rfl, rfl⟩ | ⟨d, e, hd, he, p3, q3, rfl⟩
  · cases h1; cases h2
    refine op_ne pins s σ H _ _ v u Q I rx ry ⟨rfl, ?_⟩
    rw [dec_strS]
    exact q
  · obtain ⟨p1, p2⟩ := toD_ok hr x w1 d h1 hd
    obtain ⟨q1, q2⟩ := toD_ok hr y w2 e h2 he
    exact op_neD hu pins s σ H _ _ v u Q I rx ry ⟨d, e, p1, q1, shaped_of (by decide) p2 p3, shaped_of (by decide) q2 q3, q⟩
theorem ltSy_iff : ∀ a b : Sy, ltSy a b = decide (a < b)
  | [], [] => by simp [ltSy]
  | [], _ :: _ => by simp [ltSy]
  | _ :: _, [] => by simp [ltSy]
  | a :: as, b :: bs => by
    unfold ltSy
    have ih := ltSy_iff as bs
    by_cases h : a < b
    · rw [if_pos h]
      symm
      simp only [decide_eq_true_eq]
      exact List.cons_lt_cons_iff.mpr (.inl h)
    · rw [if_neg h]
      by_cases h2 : b < a
      · rw [if_pos h2]
        symm
        simp only [decide_eq_false_iff_not]
        intro z
        rcases List.cons_lt_cons_iff.mp z with z | ⟨z, _⟩ <;> omega
      · rw [if_neg h2, ih]
        have e : a = b := by omega
        subst e
        simp [List.cons_lt_cons_iff]
theorem lex_of : ∀ {xs ys : List PV} {vs ws : List V} {k : Bool}, RVs X.K α H xs vs → RVs X.K α H ys ws → lexP xs ys = some k → lexV false vs ws = some k ∧ lexV true ws vs = some k
  | [], [], vs, ws, k, h1, h2, h => by
    cases h1; cases h2; cases h
    exact ⟨rfl, rfl⟩
  | [], y :: ys, vs, ws, k, h1, h2, h => by
    cases h1
    obtain ⟨w, ws', rfl, _, _⟩ := h2
    cases h
    exact ⟨rfl, rfl⟩
  | x :: xs, [], vs, ws, k, h1, h2, h => by
    cases h2
    obtain ⟨w, ws', rfl, _, _⟩ := h1
    cases h
    exact ⟨rfl, rfl⟩
  | x :: xs, y :: ys, vs, ws, k, h1, h2, h => by
    obtain ⟨v, vs', rfl, a1, a2⟩ := h1
    obtain ⟨w, ws', rfl, b1, b2⟩ := h2
    cases x <;> cases y <;> first
      | (cases h; done)
      | skip
    · cases a1; cases b1
      rename_i i j
      have h : (if i = j then lexP xs ys else some (decide (i < j))) = some k := by rw [← h, lexP]
      rw [lexV_int, lexV_int]
      by_cases e : i = j
      · subst e
        rw [if_pos rfl] at h
        rw [if_pos rfl, if_pos rfl]
        exact lex_of a2 b2 h
      · rw [if_neg e] at h
        rw [if_neg e, if_neg (Ne.symm e)]
        exact ⟨h, h⟩
    · cases a1; cases b1
      rename_i i j
      have h : (if i = j then lexP xs ys else some (ltSy i j)) = some k := by rw [← h, lexP]
      rw [lexV_str, lexV_str]
      by_cases e : i = j
      · subst e
        rw [if_pos rfl] at h
        rw [if_pos rfl, if_pos rfl]
        exact lex_of a2 b2 h
      · rw [if_neg e] at h
        rw [if_neg fun z => e (str_inj.mp z), if_neg fun z => e (str_inj.mp z).symm]
        rw [ltSy_iff] at h
        exact ⟨by simpa using h, by simpa using h⟩
theorem o_lt (hu : X.A.units < cLine) : OpR X (compareOp .Lt) (LC (gx X cl fa) (cop .lt)) := by
  intro pins s σ H w1 w2 v u Q I rx ry ⟨α, S, x, y, k, hr, h1, h2, h, q⟩
  cases x <;> cases y <;> first
    | (cases h; done)
    | (cases h1; cases h2; cases h
       exact op_lt pins s σ H _ _ v u Q I rx ry ⟨_, _, rfl, rfl, q⟩)
    | (cases h1; cases h2; cases h
       refine op_lt_str pins s σ H _ _ v u Q I rx ry ⟨_, _, rfl, rfl, ?_⟩
       rw [ltSy_iff] at q
       simpa using q)
    | skip
  · rename_i xs ys
    obtain ⟨a, vs, rfl, s1, r1⟩ := h1
    obtain ⟨b, ws, rfl, s2, r2⟩ := h2
    have h : lexP xs ys = some k := h
    exact op_lexT false hu pins s σ H _ _ v u Q I rx ry ⟨a, b, vs, ws, k, rfl, rfl, SqT.of s1, SqT.of s2, (lex_of r1 r2 h).1, q⟩
  · rename_i m n
    have h : (match S[m]?, S[n]? with
      | some (.lst a), some (.lst b) => lexP a b
      | _, _ => none) = some k := h
    split at h
    · rename_i xs ys e1 e2
      obtain ⟨a, vs, rfl, ha, f1, r1⟩ := hr.list e1 h1
      obtain ⟨b, ws, rfl, hb, f2, r2⟩ := hr.list e2 h2
      exact op_lexL hu pins s σ H _ _ v u Q I rx ry ⟨a, b, vs, ws, k, rfl, rfl, SqL.of f1, SqL.of f2, (lex_of r1 r2 h).1, q⟩
    · cases h
theorem o_le : OpR X (compareOp .LtE) (LC (gx X cl fa) (cop .le)) := by
  intro pins s σ H w1 w2 v u Q I rx ry ⟨α, S, x, y, k, hr, h1, h2, h, q⟩
  cases x <;> cases y <;> first
    | (cases h; done)
    | (cases h1; cases h2; cases h
       exact op_le pins s σ H _ _ v u Q I rx ry ⟨_, _, rfl, rfl, q⟩)
theorem o_gt (hu : X.A.units < cLine) : OpR X (compareOp .Gt) (LC (gx X cl fa) (cop .gt)) := by
  intro pins s σ H w1 w2 v u Q I rx ry ⟨α, S, x, y, k, hr, h1, h2, h, q⟩
  cases x <;> cases y <;> first
    | (cases h; done)
    | (cases h1; cases h2; cases h
       exact op_gt pins s σ H _ _ v u Q I rx ry ⟨_, _, rfl, rfl, q⟩)
    | skip
  rename_i xs ys
  obtain ⟨a, vs, rfl, s1, r1⟩ := h1
  obtain ⟨b, ws, rfl, s2, r2⟩ := h2
  have h : lexP ys xs = some k := h
  exact op_lexT true hu pins s σ H _ _ v u Q I rx ry ⟨a, b, vs, ws, k, rfl, rfl, SqT.of s1, SqT.of s2, (lex_of r2 r1 h).2, q⟩
theorem o_ge : OpR X (compareOp .GtE) (LC (gx X cl fa) (cop .ge)) := by
  intro pins s σ H w1 w2 v u Q I rx ry ⟨α, S, x, y, k, hr, h1, h2, h, q⟩
  cases x <;> cases y <;> first
    | (cases h; done)
    | (cases h1; cases h2; cases h
       exact op_ge pins s σ H _ _ v u Q I rx ry ⟨_, _, rfl, rfl, q⟩)
def isNonP : PV → Bool
  | .non => true
  | _ => false
theorem rv_non {x : PV} {v : V} (r : RV X.K α H x v) : decide (v = .non) = isNonP x := by
  cases x <;> first
    | (cases r; rfl)
    | (obtain ⟨_, _, rfl, _⟩ := r; rfl)
    | (obtain ⟨_, _, rfl⟩ := r; rfl)
theorem is_cases {x y : PV} {k : Bool} (h : cop .is x y S = some k) : (∃ a b, x = .bl a ∧ y = .bl b ∧ k = decide (a = b)) ∨ (y = .non ∧ k = isNonP x) := by
  cases x <;> cases y <;> first
    | (cases h; done)
    | (cases h; exact .inl ⟨_, _, rfl, rfl, rfl⟩)
    | (cases h; exact .inr ⟨rfl, rfl⟩)
theorem isn_cases {x y : PV} {k : Bool} (h : cop .isn x y S = some k) : (∃ a b, x = .bl a ∧ y = .bl b ∧ k = !decide (a = b)) ∨ (y = .non ∧ k = !isNonP x) := by
  cases x <;> cases y <;> first
    | (cases h; done)
    | (cases h; exact .inl ⟨_, _, rfl, rfl, rfl⟩)
    | (cases h; exact .inr ⟨rfl, rfl⟩)
theorem o_is : OpR X (compareOp .Is) (LC (gx X cl fa) (cop .is)) := by
  intro pins s σ H w1 w2 v u Q I rx ry ⟨α, S, x, y, k, hr, h1, h2, h, q⟩
  rcases is_cases h with ⟨a, b, rfl, rfl, rfl⟩ | ⟨rfl, rfl⟩
  · cases h1; cases h2
    exact op_isBl pins s σ H _ _ v u Q I rx ry ⟨_, _, rfl, rfl, q⟩
  · cases h2
    refine op_isN pins s σ H _ _ v u Q I rx ry ⟨rfl, ?_⟩
    rw [rv_non (X := X) h1]
    exact q
theorem o_isn : OpR X (compareOp .IsNot) (LC (gx X cl fa) (cop .isn)) := by
  intro pins s σ H w1 w2 v u Q I rx ry ⟨α, S, x, y, k, hr, h1, h2, h, q⟩
  rcases isn_cases h with ⟨a, b, rfl, rfl, rfl⟩ | ⟨rfl, rfl⟩
  · cases h1; cases h2
    exact op_notBl pins s σ H _ _ v u Q I rx ry ⟨_, _, rfl, rfl, q⟩
  · cases h2
    refine op_notN pins s σ H _ _ v u Q I rx ry ⟨rfl, ?_⟩
    rw [rv_non (X := X) h1]
    exact q
end
end L3
set_option maxRecDepth 100000
/-! L3Dict: the interpreter's dicts and HandS's. -/
namespace L3
open PySem PySem.Spec PyProof.Rows L2
theorem key_inj {a b : PV} {j : Key} (h1 : keyOf a = some j) (h2 : keyOf b = some j) : a = b := by
  cases a <;> cases b <;> simp_all [keyOf]
  · subst h1
    simp at h2
    exact h2.symm
  · subst h1
    simp at h2
  · subst h1
    simp at h2
  · subst h1
    simp only [Sum.inr.injEq] at h2
    exact (str_inj.mp h2).symm
theorem keys_inj : ∀ {xs ys : List PV} {js : List Key}, RKs xs js → RKs ys js → xs = ys
  | [], [], _, _, _ => rfl
  | [], y :: ys, _, h1, h2 => by
    cases h1
    obtain ⟨k, r, e, _⟩ := h2
    cases e
  | x :: xs, [], _, h1, h2 => by
    cases h2
    obtain ⟨k, r, e, _⟩ := h1
    cases e
  | x :: xs, y :: ys, _, h1, h2 => by
    obtain ⟨k, r, rfl, a1, a2⟩ := h1
    obtain ⟨k', r', e, b1, b2⟩ := h2
    cases e
    rw [key_inj a1 b1, keys_inj a2 b2]
theorem isK_key {x : PV} (h : isK x = true) : ∃ j, keyOf x = some j := by
  cases x <;> first
    | (cases h; done)
    | exact ⟨_, rfl⟩
theorem keys_of : ∀ {xs : List PV}, xs.all isK = true → ∃ js, RKs xs js
  | [], _ => ⟨[], rfl⟩
  | x :: xs, h => by
    simp only [List.all_cons, Bool.and_eq_true] at h
    obtain ⟨j, hj⟩ := isK_key h.1
    obtain ⟨js, hjs⟩ := keys_of h.2
    exact ⟨j :: js, j, js, rfl, hj, hjs⟩
section
variable {K : PySem.W.Frag} {α : List Addr} {H : Hp}
theorem key_rv {x : PV} {v : V} {j : Key} (r : RV K α H x v) (h : keyOf x = some j) : v = kV j := by
  cases x <;> first
    | (cases h; done)
    | (cases h; cases r; rfl)
theorem keys_rv : ∀ {xs : List PV} {vs : List V} {js : List Key}, RVs K α H xs vs → RKs xs js → vs = js.map kV
  | [], _, _, h1, h2 => by cases h1; cases h2; rfl
  | x :: xs, _, _, h1, h2 => by
    obtain ⟨w, ws, rfl, a1, a2⟩ := h1
    obtain ⟨k, r, rfl, b1, b2⟩ := h2
    rw [key_rv a1 b1, keys_rv a2 b2]
    rfl
/-- a value or none -/
def OR (K : PySem.W.Frag) (α : List Addr) (H : Hp) : Option PV → Option V → Prop
  | none, none => True
  | some v, some w => RV K α H v w
  | _, _ => False
/-- keys that differ differ -/
structure KrOk {κ : Type} (kr : PV → κ → Prop) : Prop where
  inj : ∀ {a b : PV} {j : κ}, kr a j → kr b j → a = b
  fn : ∀ {a : PV} {i j : κ}, kr a i → kr a j → i = j
theorem krK_ok : KrOk krK := ⟨fun h1 h2 => key_inj h1 h2, fun h1 h2 => Option.some.inj (h1.symm.trans h2)⟩
theorem keys_fn : ∀ {xs : List PV} {is js : List Key}, RKs xs is → RKs xs js → is = js
  | [], _, _, h1, h2 => by cases h1; cases h2; rfl
  | x :: xs, _, _, h1, h2 => by
    obtain ⟨k, r, rfl, a1, a2⟩ := h1
    obtain ⟨k', r', rfl, b1, b2⟩ := h2
    rw [Option.some.inj (a1.symm.trans b1), keys_fn a2 b2]
theorem krT_ok : KrOk krT := ⟨fun ⟨xs, e1, h1⟩ ⟨ys, e2, h2⟩ => by rw [e1, e2, keys_inj h1 h2], fun ⟨xs, e1, h1⟩ ⟨ys, e2, h2⟩ => by
  rw [e1] at e2
  cases e2
  exact keys_fn h1 h2⟩
section
variable {κ : Type} [DecidableEq κ] {kr : PV → κ → Prop} (O : KrOk kr) {k : PV} {j : κ} (hk : kr k j)
include O hk
theorem beq_key {a : PV} {i : κ} (h : kr a i) : PV.beq a k = decide (i = j) := by
  rw [Bool.eq_iff_iff, PV.beq_iff, decide_eq_true_eq]
  constructor
  · rintro rfl
    exact O.fn h hk
  · rintro rfl
    exact O.inj h hk
theorem rd_get : ∀ {kvs : List (PV × PV)} {ds : List (κ × V)}, RDg kr K α H kvs ds → OR K α H (dget kvs k) (valV ds j)
  | [], _, h => by
    cases h
    exact trivial
  | (a, x) :: r, _, h => by
    obtain ⟨i, w, ws, rfl, h1, h2, h3⟩ := h
    unfold dget
    rw [beq_key O hk h1]
    by_cases e : i = j
    · subst e
      rw [if_pos (decide_eq_true rfl), valV_pos rfl]
      exact h2
    · rw [if_neg (by simpa using e), valV_neg e]
      exact rd_get h3
theorem rd_app {v : PV} {w : V} (hv : RV K α H v w) : ∀ {kvs : List (PV × PV)} {ds : List (κ × V)}, RDg kr K α H kvs ds → RDg kr K α H (kvs ++ [(k, v)]) (ds ++ [(j, w)])
  | [], _, h => by
    cases h
    exact ⟨j, w, [], rfl, hk, hv, rfl⟩
  | (a, x) :: r, _, h => by
    obtain ⟨i, w', ws, rfl, h1, h2, h3⟩ := h
    exact ⟨i, w', ws ++ [(j, w)], rfl, h1, h2, rd_app hv h3⟩
theorem rd_map {v : PV} {w : V} (hv : RV K α H v w) : ∀ {kvs : List (PV × PV)} {ds : List (κ × V)}, RDg kr K α H kvs ds → RDg kr K α H (kvs.map fun q => if PV.beq q.1 k then (k, v) else q) (ds.map fun q => if q.1 = j then (q.1, w) else q)
  | [], _, h => by
    cases h
    exact rfl
  | (a, x) :: r, _, h => by
    obtain ⟨i, w', ws, rfl, h1, h2, h3⟩ := h
    have ih := rd_map hv h3
    rw [List.map_cons, List.map_cons]
    simp only
    rw [beq_key O hk h1]
    by_cases e : i = j
    · subst e
      rw [if_pos (decide_eq_true rfl), if_pos rfl]
      exact ⟨i, w, _, rfl, hk, hv, ih⟩
    · rw [if_neg (by simpa using e), if_neg e]
      exact ⟨i, w', _, rfl, h1, h2, ih⟩
theorem rd_put {v : PV} {w : V} (hv : RV K α H v w) {kvs : List (PV × PV)} {ds : List (κ × V)} (h : RDg kr K α H kvs ds) : RDg kr K α H (dput kvs k v) (putK ds j w) := by
  have g := rd_get O hk h
  unfold dput putK
  rw [valV_any]
  cases e1 : dget kvs k with
  | none =>
    rw [e1] at g
    cases e2 : valV ds j with
    | none => exact rd_app O hk hv h
    | some w' => rw [e2] at g; exact g.elim
  | some v' =>
    rw [e1] at g
    cases e2 : valV ds j with
    | none => rw [e2] at g; exact g.elim
    | some w' => exact rd_map O hk hv h
theorem rd_drop : ∀ {kvs : List (PV × PV)} {ds : List (κ × V)}, RDg kr K α H kvs ds → RDg kr K α H (ddrop kvs k) (dropK ds j)
  | [], _, h => by
    cases h
    exact rfl
  | (a, x) :: r, _, h => by
    obtain ⟨i, w', ws, rfl, h1, h2, h3⟩ := h
    have ih := rd_drop h3
    unfold ddrop dropK at ih ⊢
    rw [List.filter_cons, List.filter_cons]
    simp only
    rw [beq_key O hk h1]
    by_cases e : i = j
    · subst e
      simp only [decide_true, Bool.not_true, Bool.false_eq_true, if_false, ne_eq, not_true_eq_false, decide_false]
      exact ih
    · rw [if_pos (by simpa using e), if_pos (by simpa using e)]
      exact ⟨i, w', _, rfl, h1, h2, ih⟩
end
theorem rd_len {κ : Type} {kr : PV → κ → Prop} : ∀ {kvs : List (PV × PV)} {ds : List (κ × V)}, RDg kr K α H kvs ds → kvs.length = ds.length
  | [], _, h => by cases h; rfl
  | (a, x) :: r, _, h => by
    obtain ⟨i, w, ws, rfl, h1, h2, h3⟩ := h
    simp [rd_len h3]
end
section
variable {X : Cx} {cl fa : Nat → Addr} {α : List Addr} {S : Store} {H : Hp} {E : PP Exn} {Q : VK}
theorem isKey_f {k : PV} (h : isKey false k = true) : ∃ j, krK k j := by
  cases k <;> first
    | (cases h; done)
    | exact ⟨_, rfl⟩
    | (simp [isKey] at h; done)
theorem isKey_t {k : PV} (h : isKey true k = true) : ∃ xs js, k = .tup xs ∧ RKs xs js := by
  cases k <;> first
    | (cases h; done)
    | skip
  rename_i xs
  simp only [isKey, Bool.true_and] at h
  obtain ⟨js, hj⟩ := keys_of h
  exact ⟨xs, js, rfl, hj⟩
/-- what the dict of the store says of a key -/
theorem Rep.dict (hr : Rep (gx X cl fa) α S H) {p : Nat} {t : Bool} {kvs : List (PV × PV)} {k : PV} {v y : V} (hp : S[p]? = some (.dic t kvs)) (r : RV X.K α H (.ref p) v) (hk : isKey t k = true) (ry : RV X.K α H k y) :
    ∃ a o, v = .ref a ∧ α[p]? = some a ∧ DGet H a y o ∧ OR X.K α H (dget kvs k) o := by
  obtain ⟨a, ha, rfl⟩ := r
  have m := hr.at hp ha
  cases t with
  | false =>
    obtain ⟨ds, h1, h2⟩ := m
    obtain ⟨j, hj⟩ := isKey_f hk
    have ey := key_rv ry hj
    subst ey
    exact ⟨a, _, rfl, ha, DGet.k h1, rd_get krK_ok hj h2⟩
  | true =>
    obtain ⟨ds, h1, h2⟩ := m
    obtain ⟨xs, js, rfl, hj⟩ := isKey_t hk
    obtain ⟨b, vs, rfl, hb, rs⟩ := ry
    have ev := keys_rv rs hj
    subst ev
    exact ⟨a, _, rfl, ha, DGet.t h1 hb, rd_get krT_ok ⟨xs, rfl, hj⟩ h2⟩
/-- .. or one that is being walked -/
theorem Rep.dictF (hr : Rep (gx X cl fa) α S H) {p : Nat} {t : Bool} {kvs : List (PV × PV)} {k : PV} {v y : V} (hp : S[p]? = some (.dic t kvs) ∨ (t = false ∧ S[p]? = some (.fdc kvs))) (r : RV X.K α H (.ref p) v) (hk : isKey t k = true) (ry : RV X.K α H k y) :
    ∃ a o, v = .ref a ∧ α[p]? = some a ∧ DGet H a y o ∧ OR X.K α H (dget kvs k) o := by
  rcases hp with hp | ⟨rfl, hp⟩
  · exact hr.dict hp r hk ry
  · obtain ⟨a, ha, rfl⟩ := r
    obtain ⟨u, ds, h1, h2⟩ := hr.at hp ha
    obtain ⟨j, hj⟩ := isKey_f hk
    have ey := key_rv ry hj
    subst ey
    exact ⟨a, _, rfl, ha, .inl ⟨ds, j, .inr ⟨u, h1⟩, rfl, rfl⟩, rd_get krK_ok hj h2⟩
/-- .. and the dict behind a store -/
theorem Rep.dput (hr : Rep (gx X cl fa) α S H) {p : Nat} {t : Bool} {kvs : List (PV × PV)} {k z : PV} {v y w : V} (hp : S[p]? = some (.dic t kvs)) (r : RV X.K α H (.ref p) v) (hk : isKey t k = true) (ry : RV X.K α H k y) (rz : RV X.K α H z w) (hl : kvs.length < nsz) :
    ∃ a H', v = .ref a ∧ DPut H a y w H' ∧ Ext α H α H' ∧ Rep (gx X cl fa) α (S.set p (.dic t (dput kvs k z))) H' := by
  obtain ⟨a, ha, rfl⟩ := r
  have m := hr.at hp ha
  have hm := List.mem_of_getElem? ha
  cases t with
  | false =>
    obtain ⟨ds, h1, h2⟩ := m
    obtain ⟨j, hj⟩ := isKey_f hk
    have ey := key_rv ry hj
    subst ey
    have ex := Ext.set hm h1 rfl (.dK (putK ds j w))
    exact ⟨a, _, rfl, DPut.k h1 (by rw [← rd_len h2, ← nsz_eq]; exact hl), ex, hr.set ha ex.kp ⟨_, upd_same, RDg.kp ex.kp (rd_put krK_ok hj rz h2)⟩⟩
  | true =>
    obtain ⟨ds, h1, h2⟩ := m
    obtain ⟨xs, js, rfl, hj⟩ := isKey_t hk
    obtain ⟨b, vs, rfl, hb, rs⟩ := ry
    have ev := keys_rv rs hj
    subst ev
    have ex := Ext.set hm h1 rfl (.dT (putK ds js w))
    exact ⟨a, _, rfl, DPut.t h1 hb (by rw [← rd_len h2, ← nsz_eq]; exact hl), ex, hr.set ha ex.kp ⟨_, upd_same, RDg.kp ex.kp (rd_put krT_ok ⟨xs, rfl, hj⟩ rz h2)⟩⟩
/-- an index into a dict, by values -/
theorem ix_dict (hu : X.A.units + 1 < cLine) : IxR X (fun x y H Q => ∃ a v, x = .ref a ∧ DGet H a y (some v) ∧ Q v H) := by
  intro value slice pins s σ H x y v u Q I rx ry h hs
  obtain ⟨a, z, rfl, g, q⟩ := h
  cases rx
  have hT := dict_typeIs I g
  unfold subscriptTail
  refine wpAny_bind ?_
  rw [getitemInPython_of_ne hT.not_modules]
  refine wpAny_bind (wpAny_specialOf hT PySem.F.slot_dict_getitem.lookup ?_)
  have fin : wpAny (model X.prog X.w) X.A (subscripted slice false (.ref a) u) (fun r s₃ => wpAny (model X.prog X.w) X.A (letTemporaryGo value (.ref a) r >>= fun _ => pure r) (EP X pins σ Q) X.xe s₃) X.xe s := by
    rw [hs]
    exact wpAny_operating (d_getItem hu I g ry fun w' s3 I3 rw' => wpAny_bind (wpAny_letTemporaryGo (wpAny_pure ⟨z, H, I3, rw', q⟩)))
  first
    | exact wpAny_pure (wpAny_bind fin)
    | exact wpAny_bind (wpAny_pure (wpAny_bind fin))
    | exact wpAny_bind fin
theorem op_inDict (hu : X.A.units + 1 < cLine) : OpR X (compareOp .In) (fun y x H Q => ∃ a o, x = .ref a ∧ DGet H a y o ∧ Q (.bl o.isSome) H) := by
  intro pins s σ H y x u v Q I ry rx ⟨a, o, e, g, q⟩
  subst e
  cases rx
  exact d_in hu I g ry fun s3 I3 => ⟨.bl o.isSome, H, I3, rfl, q⟩
theorem op_ninDict (hu : X.A.units + 1 < cLine) : OpR X (compareOp .NotIn) (fun y x H Q => ∃ a o, x = .ref a ∧ DGet H a y o ∧ Q (.bl (!o.isSome)) H) := by
  intro pins s σ H y x u v Q I ry rx ⟨a, o, e, g, q⟩
  subst e
  cases rx
  exact d_notIn hu I g ry fun s3 I3 => ⟨.bl (!o.isSome), H, I3, rfl, q⟩
end
end L3
set_option maxRecDepth 100000
/-! L3Ops2: in, places, slices, isinstance, built-in functions, methods, what is walked. -/
namespace L3
open PySem PySem.Spec PyProof.Rows L2
section
variable {X : Cx} {cl fa : Nat → Addr} {α : List Addr} {S : Store} {H : Hp} {E : PP Exn} {Q : VK}

theorem flat_of {x : PV} {v : V} (r : RV X.K α H x v) (h : flat x = true) : flatV v = true := by
  cases x <;> first
    | (cases r; rfl)
    | cases h
theorem eqF_of {x y : PV} {v w : V} (r : RV X.K α H x v) (q : RV X.K α H y w) (hx : flat x = true) (hy : flat y = true) : eqV w v = eqF y x := by
  cases x <;> cases y <;> first
    | (cases hx; done)
    | (cases hy; done)
    | (cases r; cases q; rfl)
    | (cases r; cases q
       show (toStr _ == toStr _) = (_ == _)
       rw [Bool.eq_iff_iff]
       simp only [beq_iff_eq]
       exact str_inj)
theorem any_of {x : PV} {v : V} (r : RV X.K α H x v) (hx : flat x = true) : ∀ {ys : List PV} {ws : List V}, RVs X.K α H ys ws → ys.all flat = true → ws.all flatV = true ∧ inV v ws = ys.any fun y => eqF y x
  | [], _, h, _ => by cases h; exact ⟨rfl, rfl⟩
  | y :: ys, _, h, ha => by
    obtain ⟨w, ws, rfl, h1, h2⟩ := h
    simp only [List.all_cons, Bool.and_eq_true] at ha
    obtain ⟨i1, i2⟩ := any_of r hx h2 ha.2
    refine ⟨by simp [flat_of h1 ha.1, i1], ?_⟩
    unfold inV at i2 ⊢
    simp only [List.any_cons]
    rw [i2, eqF_of r h1 hx ha.1]
theorem isin_cases {x y : PV} {k : Bool} (h : isin S x y = some k) : (∃ c b, x = .str [c] ∧ y = .str b ∧ k = b.elem c) ∨
    (∃ ys, (y = .tup ys ∨ y = .rol ys ∨ y = .rot ys ∨ ∃ p, y = .ref p ∧ S[p]? = some (.lst ys)) ∧ flat x = true ∧ ys.all flat = true ∧ k = ys.any fun y => eqF y x) ∨
    (∃ p t kvs, y = .ref p ∧ S[p]? = some (.dic t kvs) ∧ isKey t x = true ∧ k = (dget kvs x).isSome) ∨
    ∃ xs ys d ds, x = .tup xs ∧ (y = .tup ys ∨ ∃ p, y = .ref p ∧ S[p]? = some (.lst ys)) ∧ pD (.tup xs) = some d ∧ pDs ys = some ds ∧ d.depth ≤ 50 ∧ PyData.depthAll ds ≤ 50 ∧ k = ds.any fun z => PyData.eqv z d := by
  unfold isin at h
  split at h
  · cases h
    exact .inl ⟨_, _, rfl, rfl, rfl⟩
  · unfold deepIn at h
    split at h
    · rename_i d ds h1 h2
      split at h
      · rename_i hc
        cases h
        exact .inr (.inr (.inr ⟨_, _, d, ds, rfl, .inl rfl, h1, h2, hc.1, hc.2, rfl⟩))
      · cases h
    · cases h
  · split at h
    · rename_i hc
      cases h
      simp only [Bool.and_eq_true] at hc
      exact .inr (.inl ⟨_, .inl rfl, hc.1, hc.2, rfl⟩)
    · cases h
  · split at h
    · rename_i hc
      cases h
      simp only [Bool.and_eq_true] at hc
      exact .inr (.inl ⟨_, .inr (.inl rfl), hc.1, hc.2, rfl⟩)
    · cases h
  · split at h
    · rename_i hc
      cases h
      simp only [Bool.and_eq_true] at hc
      exact .inr (.inl ⟨_, .inr (.inr (.inl rfl)), hc.1, hc.2, rfl⟩)
    · cases h
  · split at h
    · rename_i hp
      split at h
      · rename_i hc
        cases h
        simp only [Bool.and_eq_true] at hc
        exact .inr (.inl ⟨_, .inr (.inr (.inr ⟨_, rfl, hp⟩)), hc.1, hc.2, rfl⟩)
      · unfold deepInL at h
        split at h
        · unfold deepIn at h
          split at h
          · rename_i d ds h1 h2
            split at h
            · rename_i hc
              cases h
              exact .inr (.inr (.inr ⟨_, _, d, ds, rfl, .inr ⟨_, rfl, hp⟩, h1, h2, hc.1, hc.2, rfl⟩))
            · cases h
          · cases h
        · cases h
    · rename_i hp
      split at h
      · rename_i hc
        cases h
        exact .inr (.inr (.inl ⟨_, _, _, rfl, hp, hc, rfl⟩))
      · cases h
    · cases h
  · cases h
theorem OR.some {o : Option PV} {o' : Option V} (h : OR X.K α H o o') : o.isSome = o'.isSome := by
  cases o <;> cases o' <;> first
    | rfl
    | exact h.elim
/-- a tuple in a tuple -/
def rInT (K : PySem.W.Frag) (neg : Bool) : R2 := fun x y H Q => ∃ d ds, Dp K H x d ∧ (Dp K H y (.tuple ds) ∨ Dp K H y (.list ds)) ∧ d.canLay0 = true ∧ PyData.canLayAll0 ds = true ∧ d.depth ≤ 50 ∧ Q (.bl (if neg then !ds.any fun z => PyData.eqv z d else ds.any fun z => PyData.eqv z d)) H
theorem op_inT (hu : X.A.units + 64 < cLine) : OpR X (compareOp .In) (rInT X.K false) := by
  intro pins s σ H x y v u Q I rx ry h
  obtain ⟨d, ds, hd, he, sd, se, hb, q⟩ := h
  obtain ⟨as, r1⟩ := Dp.reads I d x v hd rx
  rcases he with he | he
  · obtain ⟨bs, r2⟩ := Dp.reads I (.tuple ds) y u he ry
    exact SeqAt.in_tuple_reads r2 r1 se sd (by have := Nat.min_le_right (PyData.depthAll ds) d.depth; omega) ⟨.bl _, H, I, rfl, q⟩
  · obtain ⟨bs, r2⟩ := Dp.reads I (.list ds) y u he ry
    exact SeqAt.in_list_reads r2 r1 se sd (by have := Nat.min_le_right (PyData.depthAll ds) d.depth; omega) ⟨.bl _, H, I, rfl, q⟩
theorem op_ninT (hu : X.A.units + 64 < cLine) : OpR X (compareOp .NotIn) (rInT X.K true) := by
  intro pins s σ H x y v u Q I rx ry h
  obtain ⟨d, ds, hd, he, sd, se, hb, q⟩ := h
  obtain ⟨as, r1⟩ := Dp.reads I d x v hd rx
  rcases he with he | he
  · obtain ⟨bs, r2⟩ := Dp.reads I (.tuple ds) y u he ry
    exact SeqAt.notIn_tuple_reads r2 r1 se sd (by have := Nat.min_le_right (PyData.depthAll ds) d.depth; omega) ⟨.bl _, H, I, rfl, q⟩
  · obtain ⟨bs, r2⟩ := Dp.reads I (.list ds) y u he ry
    exact SeqAt.notIn_list_reads r2 r1 se sd (by have := Nat.min_le_right (PyData.depthAll ds) d.depth; omega) ⟨.bl _, H, I, rfl, q⟩
theorem in_core {neg : Bool} {op : CmpOp} (hs : OpR X (compareOp op) (fun x y H Q => ∃ i j, x = .str i ∧ y = .str j ∧ Q (.bl (if neg then !(!(Builtin.Str.occurrences j i 0 j.length 1).isEmpty) else !(Builtin.Str.occurrences j i 0 j.length 1).isEmpty)) H))
    (hq : OpR X (compareOp op) (rIn X.K neg)) (hT : OpR X (compareOp op) (rInT X.K neg)) (hd : OpR X (compareOp op) (fun y x H Q => ∃ a o, x = .ref a ∧ DGet H a y o ∧ Q (.bl (if neg then !o.isSome else o.isSome)) H)) : OpR X (compareOp op) (LC (gx X cl fa) fun x y S => (isin S x y).map fun k => if neg then !k else k) := by
  intro pins s σ H w1 w2 v u Q I rx ry ⟨α, S, x, y, k, hr, h1, h2, h, q⟩
  simp only [Option.map_eq_some_iff] at h
  obtain ⟨k', h', rfl⟩ := h
  rcases isin_cases h' with ⟨c, b, rfl, rfl, rfl⟩ | ⟨ys, hy, fx, fy, rfl⟩ | ⟨p, t, kvs, rfl, hp, hk, rfl⟩ | ⟨xs, ys, d, ds, rfl, hy, hd1, hd2, b1, b2, rfl⟩
  · cases h1; cases h2
    refine hs pins s σ H _ _ v u Q I rx ry ⟨_, _, rfl, rfl, ?_⟩
    have e : (!(Builtin.Str.occurrences (toStr b) (toStr [c]) 0 (toStr b).length 1).isEmpty) = b.elem c := by
      rw [show toStr [c] = (⟨#[c]⟩ : Str) from rfl, PyProof.Rows.empty_one]
      simp
    rw [e]
    exact q
  · have main : ∀ p ws, w2 = .ref p → (SqL X.K H p ws ∨ SqT X.K H p ws) → RVs X.K α H ys ws → wpAny (model X.prog X.w) X.A (compareOp op v u) (EP X pins σ Q) X.xe s := fun p ws e hsq rs => by
      obtain ⟨a1, a2⟩ := any_of h1 fx rs fy
      refine hq pins s σ H _ _ v u Q I rx ry ⟨p, ws, e, hsq, flat_of h1 fx, a1, ?_⟩
      rw [a2]
      exact q
    rcases hy with rfl | rfl | rfl | ⟨p, rfl, hp⟩
    · obtain ⟨a, ws, e, s1, r1⟩ := h2
      exact main a ws e (.inr (SqT.of s1)) r1
    · obtain ⟨a, ws, e, s1, r1⟩ := h2
      exact main a ws e (.inl s1.l) r1
    · obtain ⟨a, ws, e, s1, r1⟩ := h2
      exact main a ws e (.inr s1) r1
    · obtain ⟨a, ws, e, _, e1, r1⟩ := hr.list (X := X) hp h2
      exact main a ws e (.inl (SqL.of e1)) r1
  · obtain ⟨a, o, e, _, g, g2⟩ := hr.dict (X := X) hp h2 hk h1
    refine hd pins s σ H _ _ v u Q I rx ry ⟨a, o, e, g, ?_⟩
    rw [← g2.some]
    exact q
  · obtain ⟨p1, p2⟩ := pD_ok _ w1 d h1 hd1
    rcases hy with rfl | ⟨p, rfl, hp⟩
    · obtain ⟨q1, q2⟩ := pD_ok (.tup ys) w2 (.tuple ds) h2 (by simp [pD, hd2])
      exact hT pins s σ H _ _ v u Q I rx ry ⟨d, ds, p1, .inl q1, p2, q2, b1, q⟩
    · obtain ⟨q1, q2⟩ := toD_ok hr (.ref p) w2 (.list ds) h2 (by simp [toD, hp, hd2])
      exact hT pins s σ H _ _ v u Q I rx ry ⟨d, ds, p1, .inr q1, p2, q2, b1, q⟩
theorem o_in (hu : X.A.units + 64 < cLine) : OpR X (compareOp .In) (LC (gx X cl fa) (cop .inn)) := by
  intro pins s σ H w1 w2 v u Q I rx ry ⟨α, S, x, y, k, hr, h1, h2, h, q⟩
  exact in_core (X := X) (cl := cl) (fa := fa) (neg := false) op_in_str op_in_seq (op_inT hu) (op_inDict (by omega)) pins s σ H w1 w2 v u Q I rx ry ⟨α, S, x, y, k, hr, h1, h2, by
    have h : isin S x y = some k := h
    simp [h], q⟩
theorem o_nin (hu : X.A.units + 64 < cLine) : OpR X (compareOp .NotIn) (LC (gx X cl fa) (cop .nin)) := by
  intro pins s σ H w1 w2 v u Q I rx ry ⟨α, S, x, y, k, hr, h1, h2, h, q⟩
  exact in_core (X := X) (cl := cl) (fa := fa) (neg := true) op_notin_str op_notIn_seq (op_ninT hu) (op_ninDict (by omega)) pins s σ H w1 w2 v u Q I rx ry ⟨α, S, x, y, k, hr, h1, h2, h, q⟩
def copO : COp → CmpOp
  | .eq => .Eq | .ne => .NotEq | .lt => .Lt | .le => .LtE | .gt => .Gt | .ge => .GtE | .is => .Is | .isn => .IsNot | .inn => .In | .nin => .NotIn
theorem o_cop (hu : X.A.units + 64 < cLine) (op : COp) : OpR X (compareOp (copO op)) (LC (gx X cl fa) (cop op)) := by
  cases op
  · exact o_eq hu
  · exact o_ne hu
  · exact o_lt (by omega)
  · exact o_le
  · exact o_gt (by omega)
  · exact o_ge
  · exact o_is
  · exact o_isn
  · exact o_in hu
  · exact o_nin hu

/-! ### places -/
theorem ixN_same (n : Nat) (i : Int) : L3.ixN n i = L2.ixN n i := rfl
theorem atI_of {xs : List PV} {vs : List V} {i : Int} {x : PV} (r : RVs X.K α H xs vs) (h : L3.atI xs i = some x) : ∃ v, L2.atI vs i = some v ∧ RV X.K α H x v := by
  unfold L3.atI at h
  unfold L2.atI
  rw [← r.length]
  simp only [Option.bind_eq_some_iff] at h ⊢
  obtain ⟨j, h1, h2⟩ := h
  obtain ⟨v, h3, h4⟩ := r.at h2
  exact ⟨v, ⟨j, h1, h3⟩, h4⟩
/-- x[y] -/
def LI (g : G) : R2 := fun w1 w2 H Q => ∃ α S x y v, Rep g α S H ∧ RV g.K α H x w1 ∧ RV g.K α H y w2 ∧ getIx x y S = some v ∧ ∀ w, RV g.K α H v w → Q w H
theorem ix_all (hu : X.A.units + 64 < cLine) : IxR X (fun x y H Q => rIx X.K x y H Q ∨ ∃ a v, x = .ref a ∧ DGet H a y (some v) ∧ Q v H) := ix_seq.or (ix_dict (by omega))
theorem ix_split {x y z : PV} (h : getIx x y S = some z) : (∃ i, y = .int i ∧ ((∃ xs, (x = .tup xs ∨ x = .rol xs ∨ x = .rot xs ∨ ∃ p, x = .ref p ∧ S[p]? = some (.lst xs)) ∧ L3.atI xs i = some z) ∨ ∃ xs, x = .str xs ∧ xs.length ≤ nsz ∧ (L3.atI xs i).map (fun c => .str [c]) = some z)) ∨
    ∃ p t kvs, x = .ref p ∧ (S[p]? = some (.dic t kvs) ∨ (t = false ∧ S[p]? = some (.fdc kvs))) ∧ isKey t y = true ∧ dget kvs y = some z := by
  unfold getIx at h
  split at h
  · exact .inl ⟨_, rfl, .inl ⟨_, .inl rfl, h⟩⟩
  · exact .inl ⟨_, rfl, .inl ⟨_, .inr (.inl rfl), h⟩⟩
  · exact .inl ⟨_, rfl, .inl ⟨_, .inr (.inr (.inl rfl)), h⟩⟩
  · split at h
    · rename_i hl
      exact .inl ⟨_, rfl, .inr ⟨_, rfl, hl, h⟩⟩
    · cases h
  · split at h
    · rename_i hp
      split at h
      · exact .inl ⟨_, rfl, .inl ⟨_, .inr (.inr (.inr ⟨_, rfl, hp⟩)), h⟩⟩
      · cases h
    · rename_i hp
      split at h
      · rename_i hk
        exact .inr ⟨_, _, _, rfl, .inl hp, hk, h⟩
      · cases h
    · rename_i hp
      split at h
      · rename_i hk
        exact .inr ⟨_, _, _, rfl, .inr ⟨rfl, hp⟩, hk, h⟩
      · cases h
    · cases h
  · cases h
theorem o_ix (hu : X.A.units + 64 < cLine) : IxR X (LI (gx X cl fa)) := by
  intro value slice pins s σ H w1 w2 v u Q I rx ry ⟨α, S, x, y, z, hr, h1, h2, h, q⟩ hs
  rcases ix_split h with ⟨i, rfl, ⟨xs, hx, h3⟩ | ⟨xs, rfl, hl, h3⟩⟩ | ⟨p, t, kvs, rfl, hp, hk, h3⟩
  · cases h2
    rcases hx with rfl | rfl | rfl | ⟨p, rfl, hp⟩
    · obtain ⟨a, vs, rfl, s1, r1⟩ := h1
      obtain ⟨w, h4, h5⟩ := atI_of (X := X) r1 h3
      exact ix_all hu value slice pins s σ H _ _ v u Q I rx ry (.inl (.inr (.inl ⟨a, vs, i, w, rfl, rfl, SqT.of s1, h4, q _ h5⟩))) hs
    · obtain ⟨a, vs, rfl, s1, r1⟩ := h1
      obtain ⟨w, h4, h5⟩ := atI_of (X := X) r1 h3
      exact ix_all hu value slice pins s σ H _ _ v u Q I rx ry (.inl (.inl ⟨a, vs, i, w, rfl, rfl, s1.l, h4, q _ h5⟩)) hs
    · obtain ⟨a, vs, rfl, s1, r1⟩ := h1
      obtain ⟨w, h4, h5⟩ := atI_of (X := X) r1 h3
      exact ix_all hu value slice pins s σ H _ _ v u Q I rx ry (.inl (.inr (.inl ⟨a, vs, i, w, rfl, rfl, s1, h4, q _ h5⟩))) hs
    · obtain ⟨a, vs, rfl, ha, e1, r1⟩ := hr.list (X := X) hp h1
      obtain ⟨w, h4, h5⟩ := atI_of (X := X) r1 h3
      exact ix_all hu value slice pins s σ H _ _ v u Q I rx ry (.inl (.inl ⟨a, vs, i, w, rfl, rfl, SqL.of e1, h4, q _ h5⟩)) hs
  · cases h2
    cases h1
    simp only [Option.map_eq_some_iff] at h3
    obtain ⟨c, h3, rfl⟩ := h3
    refine ix_all hu value slice pins s σ H _ _ v u Q I rx ry (.inl (.inr (.inr ⟨_, i, c, rfl, rfl, by rw [toStr_len, ← nsz_eq]; exact hl, ?_, q _ rfl⟩))) hs
    have h3' : L2.atI xs i = some c := h3
    simpa using h3'
  · obtain ⟨a, o, rfl, _, g, g2⟩ := hr.dictF (X := X) hp h1 hk h2
    rw [h3] at g2
    cases o with
    | none => exact g2.elim
    | some w => exact ix_all hu value slice pins s σ H _ _ v u Q I rx ry (.inr ⟨a, w, rfl, g, q _ g2⟩) hs

/-! ### slices -/
theorem sIx_same (n d : Nat) (i : Option Int) : L3.sIx n d i = HT.sIx n d i := by cases i <;> rfl
theorem cut_of {xs : List PV} {vs : List V} (r : RVs X.K α H xs vs) (lo hi : Option Int) : RVs X.K α H (cutL xs lo hi) (cutV vs lo hi) := by
  unfold cutL cutV
  simp only [sIx_same, r.length]
  exact (r.drop _).take _
theorem cut_all {xs : List PV} {vs : List V} (r : RVs X.K α H xs vs) {lo hi : Option Int} (h : HT.sIx vs.length 0 lo = 0 ∧ HT.sIx vs.length vs.length hi = vs.length) : cutL xs lo hi = xs := by
  unfold cutL
  simp only [sIx_same, r.length, h.1, h.2]
  rw [List.drop_zero, Nat.sub_zero, ← r.length, List.take_length]
/-- x[lo:hi] by values -/
def LSl (g : G) : V → Option Int → Option Int → Hp → VK → Prop := fun w lo hi H Q => ∃ α S x E, Rep g α S H ∧ RV g.K α H x w ∧ Wp g (getSl x lo hi S) α H (PV1 g Q) E
theorem o_sl : SlR X (LSl (gx X cl fa)) := by
  intro pins s σ H w v vl vu lo hi sl Q I rx hs pl pu ⟨α, S, x, E, hr, h1, q⟩
  unfold getSl at q
  cases x with
  | tup xs =>
    obtain ⟨a, vs, rfl, s1, r1⟩ := h1
    refine sl_tupA pins s σ H _ v vl vu lo hi sl Q I rx hs pl pu ⟨a, vs, rfl, SqT.of s1, fun z => ?_, fun _ => q.tup hr (cut_of r1 lo hi)⟩
    have q : Wp (gx X cl fa) (.ok (.tup (cutL xs lo hi)) S) α H (PV1 (gx X cl fa) Q) E := q
    rw [show cutL xs lo hi = xs from cut_all (X := X) r1 z] at q
    exact q.same hr ⟨a, vs, rfl, s1, r1⟩
  | str xs =>
    cases h1
    simp only at q
    split at q
    · rename_i hl
      refine sl_str pins s σ H _ v vl vu lo hi sl Q I rx hs pl pu ⟨toStr xs, rfl, by rw [toStr_len, ← nsz_eq]; exact hl, q.same hr ?_⟩
      show V.str _ = V.str _
      congr 1
    · exact q.elim
  | ref p =>
    simp only at q
    split at q
    · rename_i xs hp
      obtain ⟨a, vs, rfl, ha, e1, r1⟩ := hr.list (X := X) hp h1
      exact sl_list pins s σ H _ v vl vu lo hi sl Q I rx hs pl pu ⟨a, vs, rfl, SqL.of e1, q.lst hr (cut_of r1 lo hi)⟩
    · exact q.elim
  | _ => exact q.elim

/-! ### isinstance -/
def tyN : Ty → String
  | .int => "int" | .bool => "bool" | .str => "str" | .tuple => "tuple" | .list => "list"
def tyOfP : PV → Option String
  | .non => some "NoneType" | .bl _ => some "bool" | .int _ => some "int" | .str _ => some "str" | .tup _ => some "tuple" | .rol _ => some "list" | .rot _ => some "tuple" | .ref _ => some "list"
theorem kitB_all (t : Ty) : kitB "NoneType" (tyN t) = some false ∧ kitB "bool" (tyN t) = some (match t with | .int => true | .bool => true | _ => false) ∧ kitB "int" (tyN t) = some (match t with | .int => true | _ => false) ∧
    kitB "str" (tyN t) = some (match t with | .str => true | _ => false) ∧ kitB "tuple" (tyN t) = some (match t with | .tuple => true | _ => false) ∧ kitB "list" (tyN t) = some (match t with | .list => true | _ => false) := by
  cases t <;> exact ⟨by decide +kernel, by decide +kernel, by decide +kernel, by decide +kernel, by decide +kernel, by decide +kernel⟩
theorem sqT_ty {a : Addr} {vs : List V} (h : SqT X.K H a vs) : TyX X.K H (.ref a) (.type "tuple") := by
  rcases h with (h | ⟨o, h⟩) | ⟨o, its, n, h1, h2, _⟩
  · exact .base (.tup h)
  · exact .fTuple h
  · exact .kTuple h1 h2
theorem sqC_ty {a : Addr} {vs : List V} (h : SqC X.K H a vs) : TyX X.K H (.ref a) (.type "list") := by
  rcases h with ⟨o, h⟩ | ⟨o, its, n, h1, h2, _⟩
  · exact .base (.frz h)
  · exact .kList h1 h2
theorem isi_of (hr : Rep (gx X cl fa) α S H) {x : PV} {v : V} {t : Ty} {k : Bool} (r : RV X.K α H x v) (h : isTy S x t = some k) : ∃ n, TyX X.K H v (.type n) ∧ PySem.W.kitOne X.K (.type n) (.type (tyN t)) = some k := by
  obtain ⟨k1, k2, k3, k4, k5, k6⟩ := kitB_all t
  cases x with
  | non => cases r; cases h; exact ⟨_, .base .non, kit_ty k1⟩
  | bl b => cases r; cases h; exact ⟨_, .base (.bl b), kit_ty k2⟩
  | int i => cases r; cases h; exact ⟨_, .base (.int i), kit_ty k3⟩
  | str y => cases r; cases h; exact ⟨_, .base (.str _), kit_ty k4⟩
  | tup xs =>
    obtain ⟨a, vs, rfl, s1, r1⟩ := r
    cases h
    exact ⟨_, sqT_ty (SqT.of s1), kit_ty k5⟩
  | rot xs =>
    obtain ⟨a, vs, rfl, s1, r1⟩ := r
    cases h
    exact ⟨_, sqT_ty s1, kit_ty k5⟩
  | rol xs =>
    obtain ⟨a, vs, rfl, s1, r1⟩ := r
    cases h
    exact ⟨_, sqC_ty s1, kit_ty k6⟩
  | ref p =>
    simp only [isTy] at h
    split at h
    · rename_i xs hp
      cases h
      obtain ⟨a, vs, rfl, ha, e1, r1⟩ := hr.list (X := X) hp r
      exact ⟨_, .base (.lst e1), kit_ty k6⟩
    · cases h

/-! ### built-in functions -/
/-- a call of a built-in by values -/
def LB (g : G) (b : BF) : List V → Hp → VK → Prop := fun ws H Q => ∃ α S xs E, Rep g α S H ∧ RVs g.K α H xs ws ∧ Wp g (bfun b xs S) α H (PV1 g Q) E
theorem b_len : CallR X (.builtin "len") (LB (gx X cl fa) .len) := by
  intro pins s σ H ws us Q I r ⟨α, S, xs, E, hr, h1, h⟩
  unfold bfun at h
  split at h <;> (try exact h.elim) <;> (try (rename_i hb _; cases hb; done))
  all_goals first
    | (rename_i hb; cases hb; done)
    | skip
  · obtain ⟨w, rfl, h2⟩ := h1.one
    cases h2
    split at h
    · rename_i hl
      refine call_len_str pins s σ H _ us Q I r ⟨_, rfl, by rw [toStr_len, ← nsz_eq]; exact hl, ?_⟩
      rw [toStr_len]
      exact h.same hr rfl
    · exact h.elim
  · obtain ⟨w, rfl, a, vs, rfl, s1, r1⟩ := h1.one
    refine call_len_seq pins s σ H _ us Q I r ⟨a, vs, rfl, .inr (SqT.of s1), ?_⟩
    rw [← r1.length]
    exact h.same hr rfl
  · obtain ⟨w, rfl, a, vs, rfl, s1, r1⟩ := h1.one
    refine call_len_seq pins s σ H _ us Q I r ⟨a, vs, rfl, .inl s1.l, ?_⟩
    rw [← r1.length]
    exact h.same hr rfl
  · obtain ⟨w, rfl, a, vs, rfl, s1, r1⟩ := h1.one
    refine call_len_seq pins s σ H _ us Q I r ⟨a, vs, rfl, .inr s1, ?_⟩
    rw [← r1.length]
    exact h.same hr rfl
  · obtain ⟨w, rfl, h2⟩ := h1.one
    split at h
    · rename_i xs hp
      obtain ⟨a, vs, rfl, ha, e1, r1⟩ := hr.list (X := X) hp h2
      refine call_len_seq pins s σ H _ us Q I r ⟨a, vs, rfl, .inl (SqL.of e1), ?_⟩
      rw [← r1.length]
      exact h.same hr rfl
    · rename_i t kvs hp
      obtain ⟨a, ha, rfl⟩ := h2
      have m := hr.at hp ha
      cases t with
      | false =>
        obtain ⟨ds, e1, e2⟩ := m
        refine call_lenD pins s σ H _ us Q I r ⟨a, ds, rfl, e1, ?_⟩
        rw [← rd_len e2]
        exact h.same hr rfl
      | true =>
        obtain ⟨ds, e1, e2⟩ := m
        refine call_len_dT pins s σ H _ us Q I r ⟨a, ds, rfl, e1, ?_⟩
        rw [← rd_len e2]
        exact h.same hr rfl
    · exact h.elim

theorem b_abs : CallR X (.builtin "abs") (LB (gx X cl fa) .abs) := by
  intro pins s σ H ws us Q I r ⟨α, S, xs, E, hr, h1, h⟩
  unfold bfun at h
  split at h <;> first
    | exact h.elim
    | (rename_i hb; cases hb; done)
    | skip
  obtain ⟨w, rfl, h2⟩ := h1.one
  cases h2
  exact call_abs pins s σ H _ us Q I r ⟨_, rfl, h.same hr rfl⟩
theorem b_int : CallR X (.type "int") (LB (gx X cl fa) .int) := by
  intro pins s σ H ws us Q I r ⟨α, S, xs, E, hr, h1, h⟩
  unfold bfun at h
  split at h <;> first
    | exact h.elim
    | (rename_i hb; cases hb; done)
    | skip
  · obtain ⟨w, rfl, h2⟩ := h1.one
    cases h2
    exact call_int1 pins s σ H _ us Q I r (.inl ⟨_, rfl, h.same hr rfl⟩)
  · obtain ⟨w, rfl, h2⟩ := h1.one
    cases h2
    exact call_int1 pins s σ H _ us Q I r (.inr ⟨_, rfl, h.same hr rfl⟩)
theorem b_list : CallR X (.type "list") (LB (gx X cl fa) .list) := by
  intro pins s σ H ws us Q I r ⟨α, S, xs, E, hr, h1, h⟩
  unfold bfun at h
  split at h <;> first
    | exact h.elim
    | (rename_i hb; cases hb; done)
    | skip
  · obtain ⟨w, rfl, a, vs, rfl, s1, r1⟩ := h1.one
    exact call_list_of pins s σ H _ us Q I r ⟨a, vs, rfl, .inr (SqT.of s1), h.lst hr r1⟩
  · obtain ⟨w, rfl, a, vs, rfl, s1, r1⟩ := h1.one
    exact call_list_of pins s σ H _ us Q I r ⟨a, vs, rfl, .inl s1.l, h.lst hr r1⟩
  · obtain ⟨w, rfl, h2⟩ := h1.one
    split at h
    · rename_i xs hp
      obtain ⟨a, vs, rfl, ha, e1, r1⟩ := hr.list (X := X) hp h2
      exact call_list_of pins s σ H _ us Q I r ⟨a, vs, rfl, .inl (SqL.of e1), h.lst hr r1⟩
    · exact h.elim
theorem b_tuple : CallR X (.type "tuple") (LB (gx X cl fa) .tuple) := by
  intro pins s σ H ws us Q I r ⟨α, S, xs, E, hr, h1, h⟩
  unfold bfun at h
  split at h <;> first
    | exact h.elim
    | (rename_i hb; cases hb; done)
    | skip
  · obtain ⟨w, rfl, a, vs, rfl, s1, r1⟩ := h1.one
    exact call_tuple_of pins s σ H _ us Q I r ⟨a, vs, rfl, .inr ⟨SqT.of s1, h.same hr ⟨a, vs, rfl, s1, r1⟩⟩⟩
  · obtain ⟨w, rfl, a, vs, rfl, s1, r1⟩ := h1.one
    exact call_tuple_of pins s σ H _ us Q I r ⟨a, vs, rfl, .inl ⟨s1.l, h.tup hr r1⟩⟩
  · obtain ⟨w, rfl, h2⟩ := h1.one
    split at h
    · rename_i xs hp
      obtain ⟨a, vs, rfl, ha, e1, r1⟩ := hr.list (X := X) hp h2
      exact call_tuple_of pins s σ H _ us Q I r ⟨a, vs, rfl, .inl ⟨SqL.of e1, h.tup hr r1⟩⟩
    · exact h.elim
theorem bools_of : ∀ {xs : List PV} {vs : List V} {bs : List Bool}, RVs X.K α H xs vs → bools xs = some bs → vs = bs.map V.bl
  | [], _, _, h, e => by cases h; cases e; rfl
  | x :: xs, _, _, h, e => by
    obtain ⟨w, ws, rfl, h1, h2⟩ := h
    cases x <;> first
      | (cases e; done)
      | skip
    simp only [bools, Option.map_eq_some_iff] at e
    obtain ⟨bs, e1, rfl⟩ := e
    cases h1
    rw [bools_of h2 e1, List.map_cons]
theorem b_all (hc : X.calm = true) : CallR X (.builtin "all") (LB (gx X cl fa) .all) := by
  intro pins s σ H ws us Q I r ⟨α, S, xs, E, hr, h1, h⟩
  unfold bfun at h
  split at h <;> first
    | exact h.elim
    | (rename_i hb; cases hb; done)
    | skip
  obtain ⟨w, rfl, h2⟩ := h1.one
  split at h
  · rename_i xs hp
    split at h
    · rename_i bs hb
      obtain ⟨a, vs, rfl, ha, e1, r1⟩ := hr.list (X := X) hp h2
      exact cr_all hc pins s σ H _ us Q I r ⟨a, bs, rfl, by rw [← bools_of (X := X) r1 hb]; exact SqL.of e1, h.same hr rfl⟩
    · exact h.elim
  · exact h.elim
theorem b_any (hc : X.calm = true) : CallR X (.builtin "any") (LB (gx X cl fa) .any) := by
  intro pins s σ H ws us Q I r ⟨α, S, xs, E, hr, h1, h⟩
  unfold bfun at h
  split at h <;> first
    | exact h.elim
    | (rename_i hb; cases hb; done)
    | skip
  obtain ⟨w, rfl, h2⟩ := h1.one
  split at h
  · rename_i xs hp
    split at h
    · rename_i bs hb
      obtain ⟨a, vs, rfl, ha, e1, r1⟩ := hr.list (X := X) hp h2
      exact cr_any hc pins s σ H _ us Q I r ⟨a, bs, rfl, by rw [← bools_of (X := X) r1 hb]; exact SqL.of e1, h.same hr rfl⟩
    · exact h.elim
  · exact h.elim
theorem ints_of : ∀ {xs : List PV} {vs : List V} {ns : List Int}, RVs X.K α H xs vs → intsOf xs = some ns → vs = ns.map V.int
  | [], _, _, h, e => by cases h; cases e; rfl
  | x :: xs, _, _, h, e => by
    obtain ⟨w, ws, rfl, h1, h2⟩ := h
    cases x <;> first
      | (cases e; done)
      | skip
    simp only [intsOf, Option.map_eq_some_iff] at e
    obtain ⟨ns, e1, rfl⟩ := e
    cases h1
    rw [ints_of h2 e1, List.map_cons]
theorem minI_spec : ∀ (r : List Int) (i : Int), minI i r ∈ i :: r ∧ ∀ y ∈ i :: r, minI i r ≤ y
  | [], i => ⟨by simp [minI], by simp [minI]⟩
  | j :: r, i => by
    obtain ⟨h1, h2⟩ := minI_spec r (if j < i then j else i)
    unfold minI
    refine ⟨?_, fun y hy => ?_⟩
    · simp only [List.mem_cons] at h1 ⊢
      rcases h1 with h1 | h1
      · rw [h1]
        split <;> simp
      · exact .inr (.inr h1)
    · have h3 := h2 (if j < i then j else i) List.mem_cons_self
      generalize minI (if j < i then j else i) r = m at h2 h3 ⊢
      simp only [List.mem_cons] at hy
      rcases hy with rfl | rfl | hy
      · split at h3 <;> omega
      · split at h3 <;> omega
      · exact h2 y (List.mem_cons_of_mem _ hy)
theorem maxI_spec : ∀ (r : List Int) (i : Int), maxI i r ∈ i :: r ∧ ∀ y ∈ i :: r, y ≤ maxI i r
  | [], i => ⟨by simp [maxI], by simp [maxI]⟩
  | j :: r, i => by
    obtain ⟨h1, h2⟩ := maxI_spec r (if i < j then j else i)
    unfold maxI
    refine ⟨?_, fun y hy => ?_⟩
    · simp only [List.mem_cons] at h1 ⊢
      rcases h1 with h1 | h1
      · rw [h1]
        split <;> simp
      · exact .inr (.inr h1)
    · have h3 := h2 (if i < j then j else i) List.mem_cons_self
      generalize maxI (if i < j then j else i) r = m at h2 h3 ⊢
      simp only [List.mem_cons] at hy
      rcases hy with rfl | rfl | hy
      · split at h3 <;> omega
      · split at h3 <;> omega
      · exact h2 y (List.mem_cons_of_mem _ hy)
theorem insI_perm (i : Int) : ∀ r : List Int, (insI i r).Perm (i :: r)
  | [] => .refl _
  | j :: r => by
    unfold insI
    split
    · exact .refl _
    · exact ((insI_perm i r).cons j).trans (.swap i j r)
theorem sortI_perm : ∀ r : List Int, (sortI r).Perm r
  | [] => .refl _
  | i :: r => (insI_perm i (sortI r)).trans ((sortI_perm r).cons i)
theorem insI_srt (i : Int) : ∀ r : List Int, r.Pairwise (· ≤ ·) → (insI i r).Pairwise (· ≤ ·)
  | [], _ => by simp [insI]
  | j :: r, h => by
    obtain ⟨h1, h2⟩ := List.pairwise_cons.mp h
    unfold insI
    split
    · rename_i hij
      refine List.pairwise_cons.mpr ⟨fun y hy => ?_, h⟩
      rcases List.mem_cons.mp hy with rfl | hy
      · exact hij
      · have := h1 y hy
        omega
    · rename_i hij
      refine List.pairwise_cons.mpr ⟨fun y hy => ?_, insI_srt i r h2⟩
      rcases List.mem_cons.mp ((insI_perm i r).mem_iff.mp hy) with rfl | hy
      · omega
      · exact h1 y hy
theorem sortI_srt : ∀ r : List Int, (sortI r).Pairwise (· ≤ ·)
  | [] => .nil
  | i :: r => insI_srt i _ (sortI_srt r)
theorem sortI_uniq {ns r : List Int} (h1 : r.Perm ns) (h2 : r.Pairwise (· ≤ ·)) : r = sortI ns :=
  List.Perm.eq_of_pairwise (fun a b _ _ h1 h2 => Int.le_antisymm h1 h2) h2 (sortI_srt ns) (h1.trans (sortI_perm ns).symm)
theorem rvs_intsM {α : List Addr} {H : Hp} {K : PySem.W.Frag} : ∀ ns : List Int, RVs K α H (ns.map PV.int) (ns.map V.int)
  | [] => rfl
  | i :: ns => ⟨.int i, ns.map V.int, rfl, rfl, rvs_intsM ns⟩
theorem b_sorted : CallR X (.builtin "sorted") (LB (gx X cl fa) .sorted) := by
  intro pins s σ H ws us Q I r ⟨α, S, xs, E, hr, h1, h⟩
  unfold bfun at h
  split at h <;> first
    | exact h.elim
    | (rename_i hb; cases hb; done)
    | skip
  rename_i p
  obtain ⟨w, rfl, h2⟩ := h1.one
  split at h
  · rename_i x hp
    split at h
    · rename_i ns hn
      obtain ⟨a, vs, rfl, ha, e1, r1⟩ := hr.list (X := X) hp h2
      have ev := ints_of (X := X) r1 hn
      subst ev
      exact cr_sortedI pins s σ H _ us Q I r ⟨a, ns, rfl, SqL.of e1, fun ns' q hp1 hs1 hq => by
        rw [sortI_uniq hp1 hs1]
        exact h.lst hr (rvs_intsM _) q hq⟩
    · exact h.elim
  · exact h.elim
theorem b_max (hc : X.calm = true) : CallR X (.builtin "max") (LB (gx X cl fa) .max) := by
  intro pins s σ H ws us Q I r ⟨α, S, xs, E, hr, h1, h⟩
  unfold bfun at h
  split at h <;> first
    | exact h.elim
    | (rename_i hb; cases hb; done)
    | skip
  · rename_i p
    obtain ⟨w, rfl, h2⟩ := h1.one
    split at h
    · rename_i x hp
      split at h
      · rename_i i0 r0 hn
        obtain ⟨a, vs, rfl, ha, e1, r1⟩ := hr.list (X := X) hp h2
        have ev := ints_of (X := X) r1 hn
        subst ev
        refine cr_max hc pins s σ H _ us Q I r ⟨a, i0 :: r0, rfl, SqL.of e1, by simp, fun m m1 m2 => ?_⟩
        obtain ⟨s1, s2⟩ := maxI_spec r0 i0
        have em : m = maxI i0 r0 := Int.le_antisymm (s2 m m1) (m2 _ s1)
        subst em
        exact h.same hr rfl
      · exact h.elim
    · exact h.elim
  · obtain ⟨w, w', rfl, h2, h3⟩ := h1.two
    cases h2; cases h3
    exact call_max2 hc pins s σ H _ us Q I r ⟨_, _, rfl, h.same hr rfl⟩
theorem b_min (hc : X.calm = true) : CallR X (.builtin "min") (LB (gx X cl fa) .min) := by
  intro pins s σ H ws us Q I r ⟨α, S, xs, E, hr, h1, h⟩
  unfold bfun at h
  split at h <;> first
    | exact h.elim
    | (rename_i hb; cases hb; done)
    | skip
  · rename_i p
    obtain ⟨w, rfl, h2⟩ := h1.one
    split at h
    · rename_i x hp
      split at h
      · rename_i i0 r0 hn
        obtain ⟨a, vs, rfl, ha, e1, r1⟩ := hr.list (X := X) hp h2
        have ev := ints_of (X := X) r1 hn
        subst ev
        refine cr_min hc pins s σ H _ us Q I r ⟨a, i0 :: r0, rfl, SqL.of e1, by simp, fun m m1 m2 => ?_⟩
        obtain ⟨s1, s2⟩ := minI_spec r0 i0
        have em : m = minI i0 r0 := Int.le_antisymm (m2 _ s1) (s2 m m1)
        subst em
        exact h.same hr rfl
      · exact h.elim
    · exact h.elim
  · obtain ⟨w, w', rfl, h2, h3⟩ := h1.two
    cases h2; cases h3
    exact call_min2 hc pins s σ H _ us Q I r ⟨_, _, rfl, h.same hr rfl⟩
/-- the built-in's name and what stands behind it -/
def bfN : BF → Str × Value
  | .len => ("len", .builtin "len") | .abs => ("abs", .builtin "abs") | .int => ("int", .type "int") | .list => ("list", .type "list") | .tuple => ("tuple", .type "tuple")
  | .all => ("all", .builtin "all") | .any => ("any", .builtin "any") | .min => ("min", .builtin "min") | .max => ("max", .builtin "max") | .str => ("str", .type "str") | .sorted => ("sorted", .builtin "sorted")
theorem bf_boot (b : BF) : bootBuiltins (bfN b).1 = some (bfN b).2 := by cases b <;> decide +kernel
theorem toStr_strI (i : Int) : toStr (strI i) = ((toString i : String) : Str) := by
  unfold toStr strI
  rfl
theorem bf_str : CallR X (.type "str") (LB (gx X cl fa) .str) := by
  intro pins s σ H ws us Q I r ⟨α, S, xs, E, hr, h1, h⟩
  unfold bfun at h
  split at h <;> first
    | exact h.elim
    | (rename_i hb; cases hb; done)
    | skip
  · obtain ⟨w, rfl, h2⟩ := h1.one
    cases h2
    split at h
    · rename_i hl
      exact call_str_int pins s σ H _ us Q I r ⟨_, rfl, hl, by rw [← toStr_strI]; exact h.same hr rfl⟩
    · exact h.elim
  · obtain ⟨w, rfl, h2⟩ := h1.one
    cases h2
    exact SkE.call_str_str pins s σ H _ us Q I r ⟨_, rfl, h.same hr rfl⟩
theorem b_bf (hc : X.calm = true) (b : BF) : CallR X (bfN b).2 (LB (gx X cl fa) b) := by
  cases b
  · exact b_len
  · exact b_abs
  · exact b_int
  · exact b_list
  · exact b_tuple
  · exact b_all hc
  · exact b_any hc
  · exact b_min hc
  · exact b_max hc
  · exact bf_str
  · exact b_sorted

/-! ### what is walked -/
/-- J walks as Jv says, whatever lies behind (α, H) -/
def JR (g : G) (Jv : ItV) (J : It) (α : List Addr) (H : Hp) : Prop := ∀ α' H' S i, Ext α H α' H' → Rep g α' S H' →
  (∀ x, Jv.next i S = some (some x) → J.go i H' ∧ ∀ w H2, J.yld i H' w H2 → Ext α' H' α' H2 ∧ Rep g α' S H2 ∧ RV g.K α' H2 x w) ∧ (Jv.next i S = some none → J.stop i H')
theorem jr_tup {xs : List PV} {vs : List V} {a : Addr} (s1 : SqT X.K H a vs) (r1 : RVs X.K α H xs vs) : JR (gx X cl fa) (.seq xs) (Itt X.K a) α H := by
  intro α' H' S i e hr
  have s2 := e.sqT s1
  have r2 := r1.ext e
  refine ⟨fun x hx => ?_, fun hx => ?_⟩
  · have hx : xs[i]? = some x := by simpa [ItV.next] using hx
    obtain ⟨v, h3, h4⟩ := r2.at hx
    refine ⟨⟨vs, v, s2, h3⟩, fun w H2 y => ?_⟩
    obtain ⟨rfl, y⟩ := y
    have := y vs s2
    rw [h3] at this
    cases this
    exact ⟨Ext.refl _ _, hr, h4⟩
  · have hx : xs[i]? = none := by simpa [ItV.next] using hx
    exact ⟨vs, s2, by rw [← r1.length]; exact List.getElem?_eq_none_iff.mp hx⟩
theorem jr_rol {xs : List PV} {vs : List V} {a : Addr} (s1 : SqC X.K H a vs) (r1 : RVs X.K α H xs vs) : JR (gx X cl fa) (.seq xs) (Itl X.K a) α H := by
  intro α' H' S i e hr
  have s2 := (e.sqC s1).l
  have r2 := r1.ext e
  refine ⟨fun x hx => ?_, fun hx => ?_⟩
  · have hx : xs[i]? = some x := by simpa [ItV.next] using hx
    obtain ⟨v, h3, h4⟩ := r2.at hx
    refine ⟨⟨vs, v, s2, h3⟩, fun w H2 y => ?_⟩
    obtain ⟨rfl, y⟩ := y
    have := y vs s2
    rw [h3] at this
    cases this
    exact ⟨Ext.refl _ _, hr, h4⟩
  · have hx : xs[i]? = none := by simpa [ItV.next] using hx
    exact ⟨vs, s2, by rw [← r1.length]; exact List.getElem?_eq_none_iff.mp hx⟩
theorem jr_ref {p : Nat} {a : Addr} (ha : α[p]? = some a) : JR (gx X cl fa) (.ref p) (Itl X.K a) α H := by
  intro α' H' S i e hr
  have ha' := e.at ha
  have key : ∀ o, ItV.next (.ref p) i S = some o → ∃ xs vs, S[p]? = some (.lst xs) ∧ H' a = some (.lst vs) ∧ RVs X.K α' H' xs vs ∧ o = xs[i]? := fun o h => by
    simp only [ItV.next] at h
    split at h
    · rename_i xs hp
      cases h
      obtain ⟨vs, h1, h2⟩ := hr.at hp ha'
      exact ⟨xs, vs, hp, h1, h2, rfl⟩
    · cases h
  refine ⟨fun x hx => ?_, fun hx => ?_⟩
  · obtain ⟨xs, vs, hp, h1, h2, h3⟩ := key _ hx
    obtain ⟨v, h4, h5⟩ := h2.at h3.symm
    refine ⟨⟨vs, v, SqL.of h1, h4⟩, fun w H2 y => ?_⟩
    obtain ⟨rfl, y⟩ := y
    have := y vs (SqL.of h1)
    rw [h4] at this
    cases this
    exact ⟨Ext.refl _ _, hr, h5⟩
  · obtain ⟨xs, vs, hp, h1, h2, h3⟩ := key _ hx
    exact ⟨vs, SqL.of h1, by rw [← h2.length]; exact List.getElem?_eq_none_iff.mp h3.symm⟩
theorem jr_rng {lo : Int} {n : Nat} : JR (gx X cl fa) (.rng lo n) (Itr lo n) α H := by
  intro α' H' S i e hr
  refine ⟨fun x hx => ?_, fun hx => ?_⟩
  · simp only [ItV.next, Option.some.injEq] at hx
    split at hx
    · rename_i hi
      cases hx
      refine ⟨hi, fun w H2 y => ?_⟩
      obtain ⟨rfl, rfl⟩ := y
      exact ⟨Ext.refl _ _, hr, rfl⟩
    · cases hx
  · simp only [ItV.next, Option.some.injEq] at hx
    split at hx
    · cases hx
    · rename_i hi
      exact Nat.le_of_not_lt hi
theorem jr_str {z : Sy} : JR (gx X cl fa) (.str z) (Its (toStr z)) α H := by
  intro α' H' S i e hr
  refine ⟨fun x hx => ?_, fun hx => ?_⟩
  · simp only [ItV.next, Option.some.injEq, Option.map_eq_some_iff] at hx
    obtain ⟨c, h1, rfl⟩ := hx
    have hl := (List.getElem?_eq_some_iff.mp h1).1
    refine ⟨by show i < (z.toArray).size; simpa using hl, fun w H2 y => ?_⟩
    obtain ⟨rfl, c', h2, rfl⟩ := y
    have h2 : z.toArray[i]? = some c' := h2
    rw [List.getElem?_toArray, h1] at h2
    cases h2
    exact ⟨Ext.refl _ _, hr, rfl⟩
  · simp only [ItV.next, Option.some.injEq, Option.map_eq_none_iff] at hx
    have := List.getElem?_eq_none_iff.mp hx
    show (z.toArray).size ≤ i
    simpa using this
end
end L3
set_option maxRecDepth 100000
/-! L3Ops3: methods of lists and dicts, enumerate, len(set(..)). -/
namespace L3
open PySem PySem.Spec PyProof.Rows L2
section
variable {X : Cx} {cl fa : Nat → Addr} {α : List Addr} {S : Store} {H : Hp} {E : PP Exn} {Q : VK}
def lmN : LM → Str × String
  | .append => ("append", "list.append") | .extend => ("extend", "list.extend") | .pop => ("pop", "list.pop") | .index => ("index", "list.index")
/-- a list's method by values -/
def LMr (g : G) (m : LM) : V → List V → Hp → VK → Prop := fun w ws H Q => ∃ α S p xs E, Rep g α S H ∧ RV g.K α H (.ref p) w ∧ RVs g.K α H xs ws ∧ Wp g (lmeth m p xs S) α H (PV1 g Q) E
theorem rdl {xs : List PV} {vs : List V} (r : RVs X.K α H xs vs) : RVs X.K α H xs.dropLast vs.dropLast := by
  rw [List.dropLast_eq_take, List.dropLast_eq_take, r.length]
  exact r.take _
theorem lset {a : Addr} {p : Nat} {xs : List PV} {vs vs0 : List V} {v : PV} {w : V} (h0 : H a = some (.lst vs0)) (h : Wp (gx X cl fa) (.ok v (S.set p (.lst xs))) α H (PV1 (gx X cl fa) Q) E) (hr : Rep (gx X cl fa) α S H) (ha : α[p]? = some a) (r : RVs X.K α H xs vs) (rv : RV X.K α H v w) : Q w (upd H a (.lst vs)) := by
  have ex := Ext.set (List.mem_of_getElem? ha) h0 rfl (.lst vs)
  exact h.okE ex (hr.set ha ex.kp ⟨vs, upd_same, r.ext ex⟩) _ (rv.ext ex)
theorem mt_lm (m : LM) : MtR X (lmN m).2 (LMr (gx X cl fa) m) := by
  intro pins s σ H w ws v us Q I rx rs ⟨α, S, p, xs, E, hr, h1, h2, h⟩
  unfold lmeth at h
  split at h
  · rename_i ys hp
    obtain ⟨a, vs, rfl, ha, e1, r1⟩ := hr.list (X := X) hp h1
    have l1 := r1.length
    split at h
    · rename_i y
      split at h
      · rename_i hl
        obtain ⟨z, rfl, rz⟩ := h2.one
        refine mt_append pins s σ H _ _ v us Q I rx rs ⟨a, vs, z, rfl, rfl, e1, by rw [← l1, ← nsz_eq]; exact hl, ?_⟩
        exact lset e1 h hr ha (r1.append ⟨z, [], rfl, rz, rfl⟩) rfl
      · exact h.elim
    · rename_i zs
      split at h
      · rename_i hl
        obtain ⟨z, rfl, b, ws, rfl, hb, rz⟩ := h2.one
        have l2 := rz.length
        refine mt_extT pins s σ H _ _ v us Q I rx rs ⟨a, b, vs, ws, rfl, rfl, e1, SqT.of hb, by rw [← l1, ← l2, ← nsz_eq]; exact hl, ?_⟩
        exact lset e1 h hr ha (r1.append rz) rfl
      · exact h.elim
    · rename_i zs
      split at h
      · rename_i hl
        obtain ⟨z, rfl, b, ws, rfl, hb, rz⟩ := h2.one
        have l2 := rz.length
        refine mt_extT pins s σ H _ _ v us Q I rx rs ⟨a, b, vs, ws, rfl, rfl, e1, hb, by rw [← l1, ← l2, ← nsz_eq]; exact hl, ?_⟩
        exact lset e1 h hr ha (r1.append rz) rfl
      · exact h.elim
    · rename_i q
      split at h
      · rename_i zs hq
        split at h
        · rename_i hl
          obtain ⟨z, rfl, rz0⟩ := h2.one
          obtain ⟨b, ws, rfl, hb, e2, rz⟩ := hr.list (X := X) hq rz0
          have l2 := rz.length
          refine mt_extend pins s σ H _ _ v us Q I rx rs ⟨a, b, vs, ws, rfl, rfl, e1, e2, by rw [← l1, ← l2, ← nsz_eq]; exact hl, ?_⟩
          exact lset e1 h hr ha (r1.append rz) rfl
        · exact h.elim
      · exact h.elim
    · rename_i y
      split at h
      · rename_i hc
        simp only [Bool.and_eq_true] at hc
        split at h
        · rename_i j hj
          obtain ⟨z, rfl, rz⟩ := h2.one
          obtain ⟨a1, a2⟩ := any_of rz hc.1 r1 hc.2
          obtain ⟨hlt, e2, e3⟩ := List.findIdx?_eq_some_iff_getElem.mp hj
          have hjx : ys[j]? = some ys[j] := List.getElem?_eq_getElem hlt
          obtain ⟨w, h4, h5⟩ := r1.at hjx
          have fl : ∀ {i : Nat} (hi : i < ys.length), flat ys[i] = true := fun hi => List.all_eq_true.mp hc.2 _ (List.getElem_mem hi)
          refine mt_index pins s σ H _ _ v us Q I rx rs ⟨a, vs, z, j, w, rfl, rfl, SqL.of e1, flat_of rz hc.1, a1, h4, by rw [eqF_of rz h5 hc.1 (fl hlt)]; exact e2, fun m z' hm hz => ?_, ?_⟩
          · obtain ⟨x', hx', hr'⟩ := r1.at' hz
            obtain ⟨hml, ex⟩ := List.getElem?_eq_some_iff.mp hx'
            subst ex
            rw [eqF_of rz hr' hc.1 (fl hml)]
            simpa using e3 m hm
          · exact h.same hr rfl
        · exact h.elim
      · exact h.elim
    · rename_i i
      split at h
      · rename_i hi
        subst hi
        split at h
        · rename_i y r
          obtain ⟨z, rfl, rz⟩ := h2.one
          cases rz
          obtain ⟨w0, wr, rfl, rw0, rwr⟩ := r1
          refine mt_popAt pins s σ H _ _ v us Q I rx rs ⟨a, _, 0, 0, w0, rfl, rfl, e1, by decide, by decide, ?_, rfl, ?_⟩
          · rw [List.length_cons]
            unfold seqIndex?
            simp
          · exact lset e1 h hr ha rwr rw0
        · exact h.elim
      · exact h.elim
    · split at h
      · rename_i y hy
        cases h2
        rw [l1] at hy
        obtain ⟨z, hz, rz⟩ := r1.at hy
        refine mt_pop pins s σ H _ _ v us Q I rx rs ⟨a, vs, z, rfl, rfl, e1, hz, ?_⟩
        exact lset e1 h hr ha (rdl r1) rz
      · exact h.elim
    · exact h.elim
  · exact h.elim
/-! ### texts' methods -/
def smN : SM → Str × String
  | .join => ("join", "str.join") | .startswith => ("startswith", "str.startswith") | .lower => ("lower", "str.lower")
def SMr (g : G) (m : SM) : V → List V → Hp → VK → Prop := fun w ws H Q => ∃ α S x xs E, Rep g α S H ∧ w = .str (toStr x) ∧ RVs g.K α H xs ws ∧ Wp g (smeth m x xs S) α H (PV1 g Q) E
theorem strs_of {K : PySem.W.Frag} : ∀ {xs : List PV} {vs : List V} {zs : List Sy}, RVs K α H xs vs → strsOf xs = some zs → vs = (zs.map toStr).map V.str
  | [], _, zs, h, e => by
    cases h
    cases e
    rfl
  | x :: xs, _, zs, h, e => by
    obtain ⟨w, ws, rfl, h2, h3⟩ := h
    cases x <;> simp only [strsOf] at e <;> try cases e
    simp only [Option.map_eq_some_iff] at e
    obtain ⟨r, er, rfl⟩ := e
    cases h2
    rw [strs_of h3 er]
    rfl
theorem join_toStr0 (s : Sy) : ∀ zs : List Sy, Str.join (toStr s) (zs.map toStr) = toStr (joinS s zs)
  | [] => rfl
  | [x] => rfl
  | x :: y :: r => by
    have ih := join_toStr0 s (y :: r)
    show Str.join (toStr s) (toStr x :: toStr y :: r.map toStr) = _
    have e : Str.join (toStr s) (toStr x :: toStr y :: r.map toStr) = toStr x ++ toStr s ++ Str.join (toStr s) (toStr y :: r.map toStr) := rfl
    have ih : Str.join (toStr s) (toStr y :: r.map toStr) = toStr (joinS s (y :: r)) := ih
    rw [e, ih]
    show (⟨(x.toArray ++ s.toArray) ++ (joinS s (y :: r)).toArray⟩ : Str) = ⟨_⟩
    congr 1
    simp [joinS]
theorem join_toStr (s : Sy) (zs : List Sy) : Txt.join (toStr s) (zs.map toStr) = toStr (joinS s zs) := by
  rw [show Txt.join (toStr s) (zs.map toStr) = Str.join (toStr s) (zs.map toStr) from PySem.StrLaws.glued_eq_join _ _]
  exact join_toStr0 s zs
theorem mt_sm (m : SM) : MtR X (smN m).2 (SMr (gx X cl fa) m) := by
  intro pins s σ H w ws v us Q I rx rs ⟨α, S, x, xs, E, hr, h1, h2, h⟩
  subst h1
  unfold smeth at h
  split at h
  · split at h
    · rename_i p ys hp
      split at h
      · rename_i zs hz
        split at h
        · rename_i hl
          obtain ⟨z, rfl, rz⟩ := h2.one
          obtain ⟨a, vs, rfl, ha, e1, r1⟩ := hr.list (X := X) hp rz
          have ev := strs_of r1 hz
          subst ev
          have hm : ((zs.map toStr).map (·.length)) = zs.map List.length := by
            rw [List.map_map]
            refine List.map_congr_left fun z _ => ?_
            simp [Str.length]
          refine mt_join pins s σ H _ _ v us Q I rx rs ⟨toStr x, a, zs.map toStr, rfl, rfl, .inl (SqL.of e1), by rw [hm, List.length_map, toStr_len]; exact hl, ?_⟩
          rw [join_toStr]
          exact h.same hr rfl
        · exact h.elim
      · exact h.elim
    · exact h.elim
  · obtain ⟨z, rfl, rz⟩ := h2.one
    cases rz
    rename_i y
    refine mt_startswith pins s σ H _ _ v us Q I rx rs ⟨toStr x, toStr y, rfl, rfl, ?_⟩
    have e : Txt.startswith (toStr x) (toStr y) = decide (x.take y.length = y) := by
      unfold Txt.startswith
      rw [PySem.StrLaws.subAt_eq, toStr_len, toStr_len]
      simp only [toStr, List.drop_zero]
      rw [Bool.eq_iff_iff]
      simp only [Bool.and_eq_true, decide_eq_true_eq, beq_iff_eq]
      constructor
      · exact fun z => z.2
      · intro z
        refine ⟨?_, z⟩
        have := congrArg List.length z
        rw [List.length_take] at this
        omega
    rw [e]
    exact h.same hr rfl
  · cases h2
    split at h
    · rename_i hx
      subst hx
      refine mt_lower pins s σ H _ _ v us Q I rx rs ⟨_, rfl, rfl, by decide, ?_⟩
      rw [show Txt.lower (toStr t_True) = toStr t_true from by decide +kernel]
      exact h.same hr rfl
    · split at h
      · rename_i hx
        subst hx
        refine mt_lower pins s σ H _ _ v us Q I rx rs ⟨_, rfl, rfl, by decide, ?_⟩
        rw [show Txt.lower (toStr t_False) = toStr t_false from by decide +kernel]
        exact h.same hr rfl
      · exact h.elim
  · exact h.elim
/-! ### enumerate -/
theorem jr_enT {xs : List PV} {vs : List V} {a : Addr} (s1 : SqT X.K H a vs) (r1 : RVs X.K α H xs vs) : JR (gx X cl fa) (.enT xs) (IteT X.K a) α H := by
  intro α' H' S i e hr
  have s2 := e.sqT s1
  have r2 := r1.ext e
  refine ⟨fun x hx => ?_, fun hx => ?_⟩
  · simp only [ItV.next, Option.some.injEq, Option.map_eq_some_iff] at hx
    obtain ⟨y, hy, rfl⟩ := hx
    obtain ⟨v, h3, h4⟩ := r2.at hy
    refine ⟨⟨vs, v, s2, h3⟩, fun w H2 yl => ?_⟩
    obtain ⟨T, x, rfl, hT, rfl, yl⟩ := yl
    have := yl vs s2
    rw [h3] at this
    cases this
    have ex := Ext.new (α := α') hT (.tup [.int (i : Nat), v])
    exact ⟨ex, hr.new hT _, T, _, rfl, upd_same, .int (i : Nat), [v], rfl, rfl, v, [], rfl, h4.ext ex, rfl⟩
  · simp only [ItV.next, Option.some.injEq, Option.map_eq_none_iff] at hx
    exact ⟨vs, s2, by rw [← r1.length]; exact List.getElem?_eq_none_iff.mp hx⟩
theorem jr_enL {p : Nat} {a : Addr} (ha : α[p]? = some a) : JR (gx X cl fa) (.enL p) (Ite X.K a) α H := by
  intro α' H' S i e hr
  have ha' := e.at ha
  have key : ∀ o, ItV.next (.enL p) i S = some o → ∃ xs vs, S[p]? = some (.lst xs) ∧ H' a = some (.lst vs) ∧ RVs X.K α' H' xs vs ∧ o = xs[i]?.map fun x => .tup [.int (i : Nat), x] := fun o h => by
    simp only [ItV.next] at h
    split at h
    · rename_i xs hp
      cases h
      obtain ⟨vs, h1, h2⟩ := hr.at hp ha'
      exact ⟨xs, vs, hp, h1, h2, rfl⟩
    · cases h
  refine ⟨fun x hx => ?_, fun hx => ?_⟩
  · obtain ⟨xs, vs, hp, h1, h2, h3⟩ := key _ hx
    obtain ⟨y, hy, rfl⟩ := Option.map_eq_some_iff.mp h3.symm
    obtain ⟨v, h4, h5⟩ := h2.at hy
    refine ⟨⟨vs, v, SqL.of h1, h4⟩, fun w H2 yl => ?_⟩
    obtain ⟨T, x, rfl, hT, rfl, yl⟩ := yl
    have := yl vs (SqL.of h1)
    rw [h4] at this
    cases this
    have ex := Ext.new (α := α') hT (.tup [.int (i : Nat), v])
    exact ⟨ex, hr.new hT _, T, _, rfl, upd_same, .int (i : Nat), [v], rfl, rfl, v, [], rfl, h5.ext ex, rfl⟩
  · obtain ⟨xs, vs, hp, h1, h2, h3⟩ := key _ hx
    have h3 := Option.map_eq_none_iff.mp h3.symm
    exact ⟨vs, SqL.of h1, by rw [← h2.length]; exact List.getElem?_eq_none_iff.mp h3⟩
/-! ### zip, reversed(range) -/
theorem zipP_get : ∀ {xs ys : List PV} {i : Nat} {z : PV}, (zipP xs ys)[i]? = some z → ∃ x y, xs[i]? = some x ∧ ys[i]? = some y ∧ z = .tup [x, y]
  | [], _, i, z, h => by simp [zipP] at h
  | _ :: _, [], i, z, h => by simp [zipP] at h
  | x :: xs, y :: ys, 0, z, h => by
    simp [zipP] at h
    exact ⟨x, y, rfl, rfl, h.symm⟩
  | x :: xs, y :: ys, i + 1, z, h => by
    simp only [zipP, List.getElem?_cons_succ] at h ⊢
    exact zipP_get h
theorem zipP_len : ∀ {xs ys : List PV}, xs.length = ys.length → (zipP xs ys).length = xs.length
  | [], [], _ => rfl
  | _ :: _, _ :: _, h => by simp [zipP, zipP_len (Nat.succ.inj h)]
  | [], _ :: _, h => by cases h
  | _ :: _, [], h => by cases h
theorem jr_zip {xs ys : List PV} {vs ws : List V} {a b : Addr} (s1 : SqT X.K H a vs) (s2 : SqT X.K H b ws) (r1 : RVs X.K α H xs vs) (r2 : RVs X.K α H ys ws) (hl : xs.length = ys.length) : JR (gx X cl fa) (.seq (zipP xs ys)) (ItzE X.K a b) α H := by
  intro α' H' S i e hr
  have s1 := e.sqT s1
  have s2 := e.sqT s2
  have r1 := r1.ext e
  have r2 := r2.ext e
  refine ⟨fun z hz => ?_, fun hx => ?_⟩
  · simp only [ItV.next, Option.some.injEq] at hz
    obtain ⟨x, y, hx, hy, rfl⟩ := zipP_get hz
    obtain ⟨v, h3, h4⟩ := r1.at hx
    obtain ⟨w, h5, h6⟩ := r2.at hy
    refine ⟨⟨vs, ws, v, w, s1, s2, h3, h5⟩, fun u H2 yl => ?_⟩
    obtain ⟨T, v', w', rfl, hT, rfl, y1, y2⟩ := yl
    have y1 := y1 vs s1
    have y2 := y2 ws s2
    rw [h3] at y1
    rw [h5] at y2
    cases y1
    cases y2
    have ex := Ext.new (α := α') hT (.tup [v, w])
    exact ⟨ex, hr.new hT _, T, _, rfl, upd_same, v, [w], rfl, h4.ext ex, w, [], rfl, h6.ext ex, rfl⟩
  · simp only [ItV.next, Option.some.injEq] at hx
    refine ⟨vs, s1, ⟨ws, s2⟩, ?_⟩
    have := List.getElem?_eq_none_iff.mp hx
    rw [zipP_len hl] at this
    rw [← r1.length]
    exact this
theorem tupOf_ok {x : PV} {v : V} {xs : List PV} (h : tupOf x = some xs) (r : RV X.K α H x v) : ∃ a vs, v = .ref a ∧ SqT X.K H a vs ∧ RVs X.K α H xs vs := by
  cases x <;> first
    | (cases h; done)
    | skip
  · cases h
    obtain ⟨a, vs, rfl, s1, r1⟩ := r
    exact ⟨a, vs, rfl, SqT.of s1, r1⟩
  · cases h
    obtain ⟨a, vs, rfl, s1, r1⟩ := r
    exact ⟨a, vs, rfl, s1, r1⟩
/-! ### the keys of a dict -/
theorem rd_at {κ : Type} {kr : PV → κ → Prop} {K : PySem.W.Frag} : ∀ {kvs : List (PV × PV)} {ds : List (κ × V)} {i : Nat} {q : PV × PV}, RDg kr K α H kvs ds → kvs[i]? = some q → ∃ j w, ds[i]? = some (j, w) ∧ kr q.1 j
  | [], _, _, _, _, h => by simp at h
  | (k, x) :: r, _, 0, q, h, e => by
    obtain ⟨j, w, ws, rfl, h1, _, _⟩ := h
    simp at e
    subst e
    exact ⟨j, w, rfl, h1⟩
  | (k, x) :: r, _, i + 1, q, h, e => by
    obtain ⟨j, w, ws, rfl, _, _, h3⟩ := h
    obtain ⟨j', w', h4, h5⟩ := rd_at (i := i) h3 (by simpa using e)
    exact ⟨j', w', by simpa using h4, h5⟩
theorem krK_rv {K : PySem.W.Frag} {k : PV} {j : Key} (h : krK k j) : RV K α H k (kV j) := by
  cases k <;> first
    | (cases h; done)
    | (cases h; rfl)
theorem jr_kys {p : Nat} {a : Addr} {o : Obj} {ds : List (Key × V)} (ha : α[p]? = some a) (h0 : H a = some (.frz o (.dK ds))) : JR (gx X cl fa) (.kys p) (Itk a o ds) α H := by
  intro α' H' S i e hr
  have ha' := e.at ha
  have h1 := e.frzs _ _ _ h0
  have key : ∀ q, ItV.next (.kys p) i S = some q → ∃ kvs, RD X.K α' H' kvs ds ∧ q = kvs[i]?.map (·.1) := fun q h => by
    simp only [ItV.next] at h
    split at h
    · rename_i kvs hp
      cases h
      obtain ⟨o', ds', h2, h3⟩ := hr.at hp ha'
      rw [h1] at h2
      cases h2
      exact ⟨kvs, h3, rfl⟩
    · cases h
  refine ⟨fun x hx => ?_, fun hx => ?_⟩
  · obtain ⟨kvs, h3, e2⟩ := key _ hx
    obtain ⟨q, hq, rfl⟩ := Option.map_eq_some_iff.mp e2.symm
    obtain ⟨j, w, h4, h5⟩ := rd_at h3 hq
    refine ⟨⟨h1, (List.getElem?_eq_some_iff.mp h4).1⟩, fun w2 H2 y => ?_⟩
    obtain ⟨rfl, k, v, h6, rfl⟩ := y
    rw [h4] at h6
    cases h6
    exact ⟨Ext.refl _ _, hr, krK_rv h5⟩
  · obtain ⟨kvs, h3, e2⟩ := key _ hx
    have e2 := Option.map_eq_none_iff.mp e2.symm
    exact ⟨h1, by rw [← rd_len h3]; exact List.getElem?_eq_none_iff.mp e2⟩
/-! ### len(set(..)) -/
theorem dedup_same (ns : List Int) : dedup ns = dedupI ns := rfl
theorem lenSet_of (hr : Rep (gx X cl fa) α S H) {x z : PV} {v : V} (r : RV X.K α H x v) (h : lenSet S x = some z) : ∃ (l : Addr) (ns : List Int), v = .ref l ∧ SqL X.K H l (ns.map V.int) ∧ ns.length ≤ 4000 ∧ z = .int (PyProof.Rows.firstMet (ns.getD · 0) ns.length).length := by
  unfold lenSet at h
  split at h
  · split at h
    · rename_i xs hp
      split at h
      · rename_i ns hn
        split at h
        · rename_i hl
          cases h
          obtain ⟨a, vs, rfl, ha, e1, r1⟩ := hr.list (X := X) hp r
          refine ⟨a, ns, rfl, ?_, hl, ?_⟩
          · rw [← ints_of (X := X) r1 hn]
            exact SqL.of e1
          · rw [firstMet_list, dedup_same]
        · cases h
      · cases h
    · cases h
  · cases h
end
end L3
set_option maxRecDepth 100000
/-! L3Cmp: from the row's syntax to the interpreter's. -/
namespace L3
open PySem PySem.Spec PyProof.Rows L2

/-- what the module's names stand for -/
structure GT where
  glob : List (Str × Nat) := []
  fns : List (Str × Nat) := []
  cls : List (Str × Nat) := []
  /-- where the dicts stand whose keys are tuples: line, column -/
  tk : List (Nat × Nat) := []
  /-- where the walks over dicts stand -/
  dw : List (Nat × Nat) := []
  /-- the names of the classes' methods -/
  ms : List Sy := []
  /-- the exception classes -/
  exc : List (Str × Nat) := []
  /-- the constant dicts -/
  kds : List (Str × Nat) := []
/-- where a name is looked up -/
structure Sc where
  sc : Scope
  N : List Str
  fn : Str → Bool
  /-- in a def's own frame -/
  top : Bool
def ixOfN (x : Str) : List Str → Option Nat
  | [] => none
  | y :: r => if y = x then some 0 else (ixOfN x r).map (· + 1)
theorem ixOfN_ok {x : Str} : ∀ {N : List Str} {i : Nat}, ixOfN x N = some i → N[i]? = some x
  | [], _, h => by cases h
  | y :: r, i, h => by
    unfold ixOfN at h
    split at h
    · rename_i e
      cases h
      simp [e]
    · simp only [Option.map_eq_some_iff] at h
      obtain ⟨j, h1, rfl⟩ := h
      simpa using ixOfN_ok h1
def visB (sc : Scope) (x : Str) : Bool := match sc.names.lookup x with
  | some .local => true
  | some .cell => true
  | some .free => true
  | _ => false
def glbB (sc : Scope) (x : Str) : Bool := match sc.names.lookup x with
  | some .globalImplicit => true
  | _ => false
/-- a name that may be stored here -/
def locB (c : Sc) (x : Str) : Bool := match c.sc.names.lookup x with
  | some .local => true
  | some .cell => c.fn x
  | _ => false
def plainN (x : Str) : Bool := !(x == ("__debug__" : Str)) && !(x == ("__classdict__" : Str))
def compVar (c : Sc) (x : Str) : Option Nat := if plainN x && visB c.sc x then ixOfN x c.N else none
def compName (T : GT) (c : Sc) (x : Str) : Option CE := match compVar c x with
  | some i => some (.var i)
  | none => if plainN x && glbB c.sc x then (T.glob.lookup x).map .glo else none
def compConst : Const → Option CE
  | .none => some (.con .non)
  | .bool b => some (.con (.bl b))
  | .int i => some (.con (.int i))
  | .str x => some (.con (.str x.cps.toList))
  | _ => none
def bopC : Operator → Option BOp
  | .Add => some .add | .Sub => some .sub | .Mult => some .mul | .FloorDiv => some .fdiv | .Mod => some .mod | .Pow => some .pow
  | _ => none
def copC : CmpOp → Option COp
  | .Eq => some .eq | .NotEq => some .ne | .Lt => some .lt | .LtE => some .le | .Gt => some .gt | .GtE => some .ge | .Is => some .is | .IsNot => some .isn | .In => some .inn | .NotIn => some .nin
def isSet : Expr → Bool
  | .Set .. => true
  | _ => false
def isSlice : Expr → Bool
  | .Slice .. => true
  | _ => false
def isStar : Expr → Bool
  | .Starred .. => true
  | _ => false
/-- no call f() that might be super() -/
def noSup : Expr → Bool
  | .Call (.Name _ _) [] [] _ => false
  | _ => true
def listM (f : Expr → Option CE) : List Expr → Option CEs
  | [] => some .nil
  | e :: es => if isStar e then none else match f e, listM f es with
    | some c, some cs => some (.cons c cs)
    | _, _ => none
def bfOf (x : Str) : Option BF :=
  if x = "len" then some .len else if x = "abs" then some .abs else if x = "int" then some .int else if x = "list" then some .list else if x = "tuple" then some .tuple
  else if x = "all" then some .all else if x = "any" then some .any else if x = "min" then some .min else if x = "max" then some .max else if x = "str" then some .str else if x = "sorted" then some .sorted else none
def tyOf (x : Str) : Option Ty :=
  if x = "int" then some .int else if x = "bool" then some .bool else if x = "str" then some .str else if x = "tuple" then some .tuple else if x = "list" then some .list else none
/-- a comprehension's own names and their slots -/
def ownsOf (N : List Str) : List Expr → Option (List (Str × Nat))
  | [] => some []
  | .Name x _ :: es => match ixOfN x N, ownsOf N es with
    | some i, some r => some ((x, i) :: r)
    | _, _ => none
  | _ => none
def ownOf (N : List Str) : Expr → Option (List (Str × Nat))
  | .Name x _ => (ixOfN x N).map fun i => [(x, i)]
  | .Tuple es _ _ => ownsOf N es
  | _ => none
def innerSc (c : Sc) (scope : Scope) : Sc := ⟨relS scope c.sc, c.N, fun x => scope.names.lookup x == some .cell, false⟩
def optE (f : Expr → Option CE) : Option Expr → Option CO
  | none => some .no
  | some e => (f e).map .ex
def compIsi (c : Sc) (F : Expr → Option CE) : List Expr → Option CE
  | [a, .Name t _] => if isStar a || !(plainN t && glbB c.sc t) then none else (match F a, tyOf t with
    | some z, some ty => some (.isi z ty)
    | _, _ => none)
  | _ => none
def compBf (F : Expr → Option CE) (b : BF) : List Expr → Option CE
  | [] => none
  | e :: es => (listM F (e :: es)).map (.bf b)
def compCall (T : GT) (c : Sc) (F : Expr → Option CE) (x : Str) (args : List Expr) : Option CE :=
  if !(plainN x && glbB c.sc x) then none else if x = "isinstance" then compIsi c F args else match T.fns.lookup x with
    | some f => (listM F args).map (.cal f)
    | none => match T.cls.lookup x with
      | some k => (listM F args).map (.mk k)
      | none => match bfOf x with
        | some b => compBf F b args
        | none => none
def compCmp (F : Expr → Option CE) (a : Expr) : List CmpOp → List Expr → Option CE
  | [op], [b] => if isSet b then none else (match F a, copC op, F b with
    | some x, some o, some y => some (.cmp o x y)
    | _, _, _ => none)
  | [o1, o2], [b, e] => if isSet e then none else (match F a, copC o1, F b, copC o2, F e with
    | some x, some p, some y, some q, some z => some (.chn p q x y z)
    | _, _, _, _, _ => none)
  | _, _ => none
def compSub (F : Expr → Option CE) (a : Expr) : Expr → Option CE
  | .Slice none none (some (.UnaryOp .USub (.Constant (.int 1) _ _) _)) _ => (F a).map .rev
  | .Slice lo hi none _ => (match F a, optE F lo, optE F hi with
    | some x, some l, some h => some (.slc x l h)
    | _, _, _ => none)
  | b => if isSlice b then none else (match F a, F b with
    | some x, some y => some (.idx x y)
    | _, _ => none)
/-- a method's call -/
def compMth (T : GT) (F : Expr → Option CE) (o : Expr) (m : Str) (apos cpos : Pos) (args : List Expr) : Option CE :=
  if !(noSup o) || !(apos.endLine == cpos.line) || !(decide (args.length < 20)) || isDm m.cps.toList || !((lmOf m.cps.toList).isSome || (smOf m.cps.toList).isSome || decide (m.cps.toList ∈ T.ms)) then none else match F o, listM F args with
    | some x, some xs => some (.mth x m.cps.toList xs)
    | _, _ => none
/-- a dict's method -/
def compDm (F : Expr → Option CE) (o : Expr) (m : Str) (apos cpos : Pos) (args : List Expr) : Option CE :=
  if !(noSup o) || !(apos.endLine == cpos.line) then none else match args with
    | [a] => if isStar a then none else (match F o, F a with
      | some x, some y => if m = "get" then some (.dget1 x y) else none
      | _, _ => none)
    | [a, b] => if isStar a || isStar b then none else (match F o, F a, F b with
      | some x, some y, some z => if m = "get" then some (.dget2 x y z) else if m = "setdefault" then some (.dset x y z) else none
      | _, _, _ => none)
    | _ => none
/-- list(zip(a, b)) -/
def compLzip (c : Sc) (F : Expr → Option CE) : Expr → List Expr → Option CE
  | .Name x _, [.Call (.Name y _) [a, b] [] _] => if x = "list" && (y = "zip" && (plainN x && glbB c.sc x && (plainN y && glbB c.sc y && (!(isStar a) && !(isStar b))))) then (match F a, F b with
    | some u, some v => some (.lzip u v)
    | _, _ => none) else none
  | _, _ => none
/-- len(set(a)) -/
def compLens (c : Sc) (F : Expr → Option CE) : Expr → List Expr → Option CE
  | .Name x _, [.Call (.Name y _) [a] [] _] => if x = "len" && (y = "set" && (plainN x && glbB c.sc x && (plainN y && glbB c.sc y && !(isStar a)))) then (F a).map .lens else none
  | _, _ => none
def compEn (c : Sc) (F : Expr → Option CE) : Expr → Expr → Option CI
  | .Tuple _ _ _, .Call (.Name x _) [a] [] _ => if x = "enumerate" && (plainN x && glbB c.sc x && !(isStar a)) then (F a).map .enum else none
  | .Name _ _, .Call (.Name x _) [a, b] [] _ => if x = "zip" && (plainN x && glbB c.sc x && (!(isStar a) && !(isStar b))) then (match F a, F b with
    | some u, some v => some (.zip u v)
    | _, _ => none) else none
  | _, .Call (.Name x _) [.Call (.Name y _) [a] [] _] [] _ => if x = "reversed" && (y = "range" && (plainN x && glbB c.sc x && (plainN y && glbB c.sc y && !(isStar a)))) then (F a).map .revd else none
  | _, _ => none
/-- the constant dict x[b] -/
def compKd (T : GT) (c : Sc) (F : Expr → Option CE) : Expr → Expr → Option CE
  | .Name x _, b => match T.kds.lookup x with
    | some k => if plainN x && glbB c.sc x && !(isSlice b) then (F b).map (.kdi k) else none
    | none => none
  | _, _ => none
/-- list(range(a, b)) -/
def compLrng (c : Sc) (F : Expr → Option CE) : Expr → List Expr → Option CE
  | .Name x _, [.Call (.Name y _) [a, b] [] _] => if x = "list" && (y = "range" && (plainN x && glbB c.sc x && (plainN y && glbB c.sc y && (!(isStar a) && !(isStar b))))) then (match F a, F b with
    | some u, some v => some (.lrng u v)
    | _, _ => none) else none
  | _, _ => none
def compIfs (F : Expr → Option CE) : List Expr → Option CE
  | [] => some (.con (.bl true))
  | [f] => F f
  | _ => none
def compIt (c : Sc) (F : Expr → Option CE) (FI : Expr → Option CI) (tg it : Expr) : Option CI := match compEn c F tg it with
  | some i => some i
  | none => FI it
def compLc (c : Sc) (FI : Expr → Expr → Option CI) (FT : Sc → Expr → Option CT) (FE : Sc → Expr → Option CE) (elt : Expr) (scope : Scope) : List Comprehension → Option CE
  | [⟨tg, iter, ifs, 0⟩] => (match ownOf c.N tg with
    | none => none
    | some own => if !blkC c.N c.sc scope own || isSet iter then none else (match FI tg iter, FT (innerSc c scope) tg, FE (innerSc c scope) elt, compIfs (FE (innerSc c scope)) ifs with
      | some i, some t, some x, some k => some (.lc (own.map (·.2)) t i k x)
      | _, _, _, _ => none))
  | _ => none
def compRng (F : Expr → Option CE) : List Expr → Option CI
  | [a] => if isStar a then none else (F a).map .rng
  | [a, b] => if isStar a || isStar b then none else (match F a, F b with
    | some x, some y => some (.rng2 x y)
    | _, _ => none)
  | _ => none
mutual
def compE (T : GT) : Nat → Sc → Expr → Option CE
  | 0, _, _ => none
  | d + 1, c, e => match e with
    | .Name x _ => compName T c x
    | .Constant k _ _ => compConst k
    | .Tuple es _ _ => (listM (compE T d c) es).map .tup
    | .List es _ => (listM (compE T d c) es).map .lst
    | .BinOp a op b _ => match compE T d c a, bopC op, compE T d c b with
      | some x, some o, some y => some (.bin o x y)
      | _, _, _ => none
    | .UnaryOp .USub a _ => (compE T d c a).map .neg
    | .UnaryOp .Not a _ => (compE T d c a).map .nt
    | .BoolOp _ [a] _ => compE T d c a
    | .BoolOp .And (a :: b :: r) pos => match compE T d c a, compE T d c (.BoolOp .And (b :: r) pos) with
      | some x, some y => some (.and x y)
      | _, _ => none
    | .BoolOp .Or (a :: b :: r) pos => match compE T d c a, compE T d c (.BoolOp .Or (b :: r) pos) with
      | some x, some y => some (.or x y)
      | _, _ => none
    | .IfExp t a b _ => match compE T d c t, compE T d c a, compE T d c b with
      | some z, some x, some y => some (.ife z x y)
      | _, _, _ => none
    | .Compare a ops bs _ => compCmp (compE T d c) a ops bs
    | .Subscript a b _ => (match compKd T c (compE T d c) a b with
      | some r => some r
      | none => compSub (compE T d c) a b)
    | .Call (.Name x p) args [] _ => (match compLens c (compE T d c) (.Name x p) args with
      | some r => some r
      | none => match compLzip c (compE T d c) (.Name x p) args with
        | some r => some r
        | none => match compLrng c (compE T d c) (.Name x p) args with
          | some r => some r
          | none => compCall T c (compE T d c) x args)
    | .Call (.Attribute o m apos) args [] pos => if isDm m.cps.toList then compDm (compE T d c) o m apos pos args else compMth T (compE T d c) o m apos pos args
    | .Attribute o f _ => if noSup o then (compE T d c o).map (.fld · f.cps.toList) else none
    | .Dict [] [] pos => some (.dnew (T.tk.contains (pos.line, pos.col)))
    | .Dict [some k] [v] pos => match compE T d c k, compE T d c v with
      | some x, some y => some (if T.tk.contains (pos.line, pos.col) then .ddist x y else .ddis x y)
      | _, _ => none
    | .ListComp elt gens scope _ => compLc c (compIt c (compE T d c) (compI T d c)) (compT T d) (compE T d) elt scope gens
    | _ => none
def compT (T : GT) : Nat → Sc → Expr → Option CT
  | 0, _, _ => none
  | d + 1, c, e => match e with
    | .Name x _ => if locB c x then (ixOfN x c.N).map .name else none
    | .Tuple es _ _ => (compTs T d c es).map .tup
    | .Subscript o i _ => if isSlice i then none else match compE T d c o, compE T d c i with
      | some x, some y => some (.sub x y)
      | _, _ => none
    | _ => none
def compTs (T : GT) : Nat → Sc → List Expr → Option CTs
  | 0, _, _ => none
  | d + 1, c, es => match es with
    | [] => some .nil
    | e :: es => if isStar e then none else match compT T d c e, compTs T d c es with
      | some t, some ts => some (.cons t ts)
      | _, _ => none
def compI (T : GT) : Nat → Sc → Expr → Option CI
  | 0, _, _ => none
  | d + 1, c, e => match e with
    | .Call (.Name x p) args [] pos => if x = "range" then (if !(plainN x && glbB c.sc x) then none else compRng (compE T d c) args) else (compE T d c (.Call (.Name x p) args [] pos)).map .seq
    | e => (compE T d c e).map .seq
end
/-- the name of a dict that is walked -/
def walked (c : Sc) : Expr → Option Nat
  | .Name x _ => compVar c x
  | _ => none
/-- a list comprehension, stored in a name on one line -/
def isLc : Expr → Bool
  | .ListComp .. => true
  | .SetComp .. => true
  | .DictComp .. => true
  | _ => false
def isTupE : Expr → Bool
  | .Tuple .. => true
  | .List .. => true
  | _ => false
def isNameE : Expr → Bool
  | .Name .. => true
  | _ => false
/-- a target that is no name among those of a tuple -/
def subT : Expr → Bool
  | .Tuple ts _ _ => ts.any fun t => !isNameE t
  | _ => false
/-- the comprehension's slots are those of the frame -/
def swapB (c : Sc) (y : Str) (py : Pos) : Expr → Bool
  | .ListComp _ _ scope pos => (match c.sc.names.lookup y with | some .local => true | _ => false) && (py.line == pos.line) && !(scope.names.any fun (n, k) => n == y && (k == .local || k == .cell))
  | _ => false
def notLoc (c : Sc) (y : Str) : Bool := match c.sc.names.lookup y with
  | some .local => false
  | _ => true
def compRai (T : GT) (c : Sc) (x : Str) : CS := match T.exc.lookup x with
  | some k => if plainN x && glbB c.sc x then .rai k else .bad
  | none => .bad
/-- constants, tuples of constants -/
def compKc : Expr → Option CE
  | .Constant k _ _ => compConst k
  | _ => none
def compK : Expr → Option CE
  | .Constant k _ _ => compConst k
  | .Tuple es _ _ => (listM compKc es).map .tup
  | _ => none
/-- the exception's slot -/
def compXs (c : Sc) : Option Str → Option (Option Nat)
  | none => some none
  | some n => match c.sc.names.lookup n with
    | some .local => if plainN n then (ixOfN n c.N).map some else none
    | _ => none
/-- isinstance(e, D), e the exception -/
def compHt (T : GT) (c : Sc) (n : Option Str) : Expr → Option Nat
  | .Call (.Name i _) [.Name y _, .Name d _] [] _ => if i = "isinstance" && (n = some y && (plainN i && glbB c.sc i && (plainN d && glbB c.sc d))) then T.exc.lookup d else none
  | _ => none
/-- an except suite -/
def compH (T : GT) (c : Sc) (n : Option Str) : List Stmt → Option HSs
  | [] => some .nil
  | .If t [.Return (some v) _] [] _ :: r => (match compHt T c n t, compK v, compH T c n r with
    | some d, some x, some h => some (.cons (some d) x h)
    | _, _, _ => none)
  | [.Return (some v) _] => (compK v).map fun x => .cons none x .nil
  | [.Pass _] => some .nil
  | _ => none
/-- a try -/
def compTry (T : GT) (c : Sc) (x : Str) (nm : Option Str) (body : Option CSs) (suite : List Stmt) : CS :=
  if !(c.top) || !(plainN x && glbB c.sc x) || suite.isEmpty then .bad else match T.exc.lookup x, compXs c nm, body, compH T c nm suite with
    | some k, some i, some b, some h => .try b k i h
    | _, _, _, _ => .bad
mutual
def compS (T : GT) : Nat → Sc → Stmt → Option CS
  | 0, _, _ => none
  | d + 1, c, s => match s with
    | .Assign [.Name y py] e _ => if !(locB c y) then none else match ixOfN y c.N, compE T d c e with
      | some i, some x => some (.asg (.name i) x)
      | _, _ => none
    | .Assign [.Attribute o f _] e _ => if isLc e then none else match compE T d c o, compE T d c e with
      | some x, some y => some (.asg (.fld x f.cps.toList) y)
      | _, _ => none
    | .Assign [tg] e _ => if isLc e || (isTupE e && isTupE tg && !subT tg) then none else match compT T d c tg, compE T d c e with
      | some t, some x => some (.asg t x)
      | _, _ => none
    | .AugAssign (.Name y _) op e _ => if !(locB c y) then none else match ixOfN y c.N, bopC op, compE T d c e with
      | some i, some .add, some x => some (.aug i .add x)
      | some i, some .sub, some x => some (.aug i .sub x)
      | _, _, _ => none
    | .AugAssign (.Subscript o i _) op e _ => if isSlice i then some .bad else match compE T d c o, compE T d c i, bopC op, compE T d c e with
      | some x, some y, some .add, some z => some (.augs x y .add z)
      | some x, some y, some .sub, some z => some (.augs x y .sub z)
      | _, _, _, _ => none
    | .AugAssign (.Attribute o f _) op e _ => match compE T d c o, bopC op, compE T d c e with
      | some x, some .add, some y => some (.augf x f.cps.toList .add y)
      | some x, some .sub, some y => some (.augf x f.cps.toList .sub y)
      | _, _, _ => none
    | .Delete [.Subscript o i _] _ => if isSlice i then some .bad else match compE T d c o, compE T d c i with
      | some x, some y => some (.del x y)
      | _, _ => none
    | .Try body [.ExceptHandler (some (.Name x _)) nm suite _] [] [] _ => some (compTry T c x nm (compB T d c body) suite)
    | .Expr (.Constant (.str _) _ _) _ => some .pass
    | .Expr e _ => if isLc e then none else (compE T d c e).map .ex
    | .Return (some e) _ => (compE T d c e).map .ret
    | .Return none _ => some .retn
    | .Pass _ => some .pass
    | .Raise (some (.Call (.Name x _) [.Constant (.str _) _ _] [] _)) none _ => some (compRai T c x)
    | .Break _ => some .brk
    | .Continue _ => some .cnt
    | .If t a b _ => match compE T d c t, compB T d c a, compB T d c b with
      | some z, some x, some y => some (.ite z x y)
      | _, _, _ => none
    | .While t b [] _ => match compE T d c t, compB T d c b with
      | some z, some x => some (.whl z x)
      | _, _ => none
    | .For tg it b [] pos => if isSet it then none else if T.dw.contains (pos.line, pos.col) then (match walked c it, compT T d c tg, compB T d c b with
      | some k, some t, some x => some (.lck k (.fr t (.kys k) x))
      | _, _, _ => none) else match compT T d c tg, compIt c (compE T d c) (compI T d c) tg it, compB T d c b with
      | some t, some i, some x => some (.fr t i x)
      | _, _, _ => none
    | _ => some .bad
def compB (T : GT) : Nat → Sc → List Stmt → Option CSs
  | 0, _, _ => none
  | d + 1, c, l => match l with
    | [] => some .nil
    | s :: ss => match compS T d c s, compB T d c ss with
      | some x, some xs => some (.cons x xs)
      | _, _ => none
end
end L3
set_option maxRecDepth 100000
/-! L3Snd: what the interpreter says of an expression, the model does. -/
namespace L3
open PySem PySem.Spec PyProof.Rows L2
section
variable {X : Cx}
theorem pe_mono {e : Expr} {t t' : TE} (h : PE X e t) (m : ∀ σ H Q, t' σ H Q → t σ H Q) : PE X e t' := ⟨fun pins s σ H Q I q => h.run pins s σ H Q I (m σ H Q q)⟩
theorem pt_mono {e : Expr} {t t' : TT} (h : PT X e t) (m : ∀ σ H Q, t' σ H Q → t σ H Q) : PT X e t' := ⟨fun pins s σ H Q I q => h.run pins s σ H Q I (m σ H Q q)⟩
theorem pw_mono {e : Expr} {t t' : TT} (h : PW X e t) (m : ∀ σ H Q, t' σ H Q → t σ H Q) : PW X e t' := ⟨fun wh pins s σ H Q I q => h.run wh pins s σ H Q I (m σ H Q q)⟩
theorem pa_mono {e : List Expr} {t t' : TA} (h : PA X e t) (m : ∀ σ H Q, t' σ H Q → t σ H Q) : PA X e t' := ⟨fun pos pins s σ H Q I q => h.run pos pins s σ H Q I (m σ H Q q)⟩
theorem pg_mono {e : Expr} {t t' : TG} (h : PG X e t) (m : ∀ v σ H Q, t' v σ H Q → t v σ H Q) : PG X e t' := ⟨fun pins s σ H v u Q I r q => h.run pins s σ H v u Q I r (m v σ H Q q)⟩
theorem pgs_mono {e : List Expr} {t t' : TGs} (h : PGs X e t) (m : ∀ v σ H Q, t' v σ H Q → t v σ H Q) : PGs X e t' := ⟨fun pins s σ H v u Q I r q => h.run pins s σ H v u Q I r (m v σ H Q q)⟩
theorem pi_mono {tg e : Expr} {t t' : TI} (h : PI X tg e t) (m : ∀ σ H Q, t' σ H Q → t σ H Q) : PI X tg e t' := ⟨fun pins s σ H Q I q => h.run pins s σ H Q I (m σ H Q q)⟩
theorem pi_or {tg e : Expr} {t t' : TI} (h : PI X tg e t) (h' : PI X tg e t') : PI X tg e (fun σ H Q => t σ H Q ∨ t' σ H Q) := ⟨fun pins s σ H Q I q => by
  rcases q with q | q
  · exact h.run pins s σ H Q I q
  · exact h'.run pins s σ H Q I q⟩
theorem pe_orr {e : Expr} {t t' : TE} (h : PE X e t) (h' : PE X e t') : PE X e (fun σ H Q => t σ H Q ∨ t' σ H Q) := ⟨fun pins s σ H Q I q => by
  rcases q with q | q
  · exact h.run pins s σ H Q I q
  · exact h'.run pins s σ H Q I q⟩
end

/-! ### readings -/
def EW (g : G) (W : WX) (σ : L2.St) : PP Exn := fun α H x _ => ∀ c d, RX g x c d α H → W c d σ H
def LE (g : G) (W : WX) (f : Env → Store → R PV) : TE := fun σ H Q => ∃ α S ρ, Rep g α S H ∧ RE g α H ρ σ ∧ Wp g (f ρ S) α H (PV1 g Q) (EW g W σ)
def LTt (g : G) (W : WX) (f : Env → Store → R Bool) : TT := fun σ H Q => ∃ α S ρ, Rep g α S H ∧ RE g α H ρ σ ∧ Wp g (f ρ S) α H (fun _ H' b _ => Q b H') (EW g W σ)
def LA (g : G) (W : WX) (f : Env → Store → R (List PV)) : TA := fun σ H Q => ∃ α S ρ, Rep g α S H ∧ RE g α H ρ σ ∧ Wp g (f ρ S) α H (fun α' H' xs _ => ∀ ws, RVs g.K α' H' xs ws → Q ws H') (EW g W σ)
def LO (g : G) (W : WX) (f : Env → Store → R (Option Int)) : TO := fun σ H Q => ∃ α S ρ, Rep g α S H ∧ RE g α H ρ σ ∧ Wp g (f ρ S) α H (fun _ H' o _ => Q o H') (EW g W σ)
/-- the slots but those -/
def ButSl (sl : List Nat) (σ σ' : L2.St) : Prop := σ'.length = σ.length ∧ ∀ i, i ∉ sl → σ'[i]? = σ[i]?
def LG (g : G) (sl : List Nat) (f : PV → Env → Store → R Env) : TG := fun v σ H Q => ∃ α S ρ x, Rep g α S H ∧ RE g α H ρ σ ∧ RV g.K α H x v ∧
  Wp g (f x ρ S).nox α H (fun α' H' ρ' _ => ∀ σ', RE g α' H' ρ' σ' → ButSl sl σ σ' → Q σ' H') (fun _ _ _ _ => False)
def LGs (g : G) (sl : List Nat) (f : List PV → Env → Store → R Env) : TGs := fun vs σ H Q => ∃ α S ρ xs, Rep g α S H ∧ RE g α H ρ σ ∧ RVs g.K α H xs vs ∧
  Wp g (f xs ρ S).nox α H (fun α' H' ρ' _ => ∀ σ', RE g α' H' ρ' σ' → ButSl sl σ σ' → Q σ' H') (fun _ _ _ _ => False)
def LIt (g : G) (W : WX) (f : Env → Store → R ItV) : TI := fun σ H R => ∃ α S ρ, Rep g α S H ∧ RE g α H ρ σ ∧ Wp g (f ρ S) α H (fun α' H' Jv _ => ∀ J, JR g Jv J α' H' → R J H') (EW g W σ)

/-! ### what a def of the table promises -/
def spOf (g : G) (T : Tab) (n f : Nat) (np : Nat) : Sp := fun vs H Q E => vs.length = np ∧ ∃ α S args, Rep g α S H ∧ RVs g.K α H args vs ∧
  Wp g (callF T n f args S) α H (PV1 g Q) (fun α' H' x _ => ∀ c d, RX g x c d α' H' → E c d H')
structure NmOk (K : PySem.W.Frag) (w : World) (mg : Str → Option Value) (T : GT) (tab : Tab) (cl fa : Nat → Addr) : Prop where
  glob : ∀ x k, T.glob.lookup x = some k → ∃ v u w, tab.glob[k]? = some v ∧ mg x = some u ∧ RelV w u ∧ ∀ α H, RV K α H v w
  fns : ∀ x f, T.fns.lookup x = some f → mg x = some (.ref (fa f)) ∧ f < tab.fns.length
  free : ∀ b : BF, mg (bfN b).1 = none
  freeT : ∀ t : Ty, mg (tyN t) = none
  isi : mg "isinstance" = none
  range : mg "range" = none
  enum : mg "enumerate" = none
  exc : ∀ x c, T.exc.lookup x = some c → mg x = some (.ref (cl c)) ∧ PySem.W.excIn K (cl c) He.veBase "ValueError.__new__" = true ∧ PySem.W.keepIn K (.ref (cl c)) = true ∧ PySem.W.subIn K (.ref (cl c)) (.type "BaseException") = some true ∧ PySem.W.typeIn K (.ref (cl c)) = some (.type "type")
  ms : ∀ m ∈ T.ms, ∃ c f fn, methOf tab c m = some f ∧ tab.fns[f]? = some fn
  set : mg "set" = none
  rvd : mg "reversed" = none
  kds : ∀ x k, T.kds.lookup x = some k → ∃ kvs d, tab.kds[k]? = some kvs ∧ mg x = some (.ref d) ∧ ∀ z v, lookF z kvs = some v → ∃ v0, KDct K w d (toStr z) v0 ∧ ∀ α H, RV K α H v v0
  zip : mg "zip" = none
  exs : ∀ k ∈ tab.xs, ExcC K (cl k)
  exm : ∀ k j, k ∈ tab.xs → j ∈ tab.xs → PySem.W.exmOne K (.ref (cl k)) (.ref (cl j)) = some (tab.sub.any fun q => q.1 == k && q.2 == j) ∧ PySem.W.kitOne K (.ref (cl k)) (.ref (cl j)) = some (tab.sub.any fun q => q.1 == k && q.2 == j)
  cls : ∀ x c, T.cls.lookup x = some c → mg x = some (.ref (cl c)) ∧ ∃ f, tab.inits.lookup c = some f
  meth : ∀ c m f, methOf tab c m = some f → Cls K (cl c) ∧ Meth K (cl c) (toStr m) (fa f) ∧ f < tab.fns.length
  attr : ∀ c f, isAttr tab c f = true → Cls K (cl c) ∧ NoAttr K (cl c) (toStr f)
  init : ∀ c f, tab.inits.lookup c = some f → Mk K (cl c) (fa f) ∧ f < tab.fns.length
structure CxOk (T : GT) (tab : Tab) (cl fa : Nat → Addr) (pss : Nat → List Str) (n : Nat) (X : Cx) (W : WX) : Prop where
  calm : X.calm = true
  nd : X.N.Nodup
  room : Room n X.A
  nm : NmOk X.K X.w X.mg T tab cl fa
  fns : ∀ f fn, tab.fns[f]? = some fn → (pss f).length = fn.np ∧ PySem.W.keepIn X.K (.ref (fa f)) = true ∧ ∃ fd, FnOk X.prog X.w X.K X.mg X.base (L2.CX X.prog X.w) n (fa f) fd (pss f) (spOf (gx X cl fa) tab n f fn.np) ∧ Binds X.K fd (pss f) []
  ini : ∀ m, n = m + 1 → ∀ f fn, tab.fns[f]? = some fn → (pss f).length = fn.np ∧ ∃ fd, FnOk X.prog X.w X.K X.mg X.base (L2.CX X.prog X.w) m (fa f) fd (pss f) (spOf (gx X cl fa) tab m f fn.np) ∧ Binds X.K fd (pss f) []
  tk : Takes X W
  po : PassesOwn (model X.prog X.w) X.A X.env X.xe
structure ScOk (c : Sc) (X : Cx) : Prop where
  sc : X.env.scope = c.sc
  N : X.N = c.N
  fn : X.fn = c.fn
  top : c.top = true → X.stack = X.env :: X.outer ∧ X.env.frame = some X.env.locals

section
variable {X : Cx} {g : G} {W : WX}
theorem R.bind_assoc {α β γ : Type} (r : R α) (f : α → Store → R β) (h : β → Store → R γ) : (r.bind f).bind h = r.bind fun a S => (f a S).bind h := by cases r <;> rfl
theorem ofO_bind {α β : Type} (o : Option α) (S : Store) (f : α → Store → R β) : (ofO o S).bind f = match o with
    | some a => f a S
    | none => .stuck := by cases o <;> rfl
theorem EW.ext {σ : L2.St} {α α' : List Addr} {H H' : Hp} {x : Exn} {S : Store} : EW g W σ α' H' x S → EW g W σ α' H' x S := id
theorem Wp.nox {β : Type} {r : R β} {α : List Addr} {H : Hp} {P : PP β} {E : PP Exn} (h : Wp g r.nox α H P E) {E' : PP Exn} : Wp g r α H P E' := by
  cases r with
  | ok b S => exact h
  | exc x S => exact h.elim
  | stuck => exact h.elim
theorem Wp.tonox {β : Type} {r : R β} {α : List Addr} {H : Hp} {P : PP β} (h : Wp g r α H P fun _ _ _ _ => False) (hr : ∀ S, ∃ α' H', Ext α H α' H' ∧ Rep g α' S H') : Wp g r.nox α H P fun _ _ _ _ => False := by
  cases r with
  | ok b S => exact h
  | exc x S =>
    obtain ⟨α', H', e, q⟩ := hr S
    exact (h α' H' e q).elim
  | stuck => exact h
/-- bind, the ground as it is -/
theorem Wp.bind0 {β γ : Type} {r : R β} {α : List Addr} {H : Hp} {E : PP Exn} {f : β → Store → R γ} {Q : PP γ} (h : Wp g (r.bind f) α H Q E) : Wp g r α H (fun _ _ b S => Wp g (f b S) α H Q E) E := by
  cases r with
  | ok b S => exact fun _ _ _ _ => h
  | exc x S => exact h
  | stuck => exact h
end

section
variable {X : Cx} {T : GT} {tab : Tab} {cl fa : Nat → Addr} {pss : Nat → List Str} {n : Nat} {W : WX} {c : Sc}
theorem visB_ok {sc : Scope} {x : Str} (h : visB sc x = true) : Vis sc x := by
  unfold visB at h
  unfold Vis
  split at h <;> simp_all
theorem glbB_ok (sc : ScOk c X) {x : Str} (h : glbB c.sc x = true) : Gl X x := by
  unfold glbB at h
  show X.env.scope.names.lookup x = some .globalImplicit
  rw [sc.sc]
  split at h <;> simp_all
theorem plainN_ok {x : Str} (h : plainN x = true) : (x == ("__debug__" : Str)) = false ∧ (x == ("__classdict__" : Str)) = false := by
  unfold plainN at h
  simpa using h
theorem s_var (sc : ScOk c X) {x : Str} {pos : Pos} {i : Nat} (h : compVar c x = some i) : PE X (.Name x pos) (LE (gx X cl fa) W (getV · i ·)) := by
  unfold compVar at h
  split at h
  · rename_i hv
    simp only [Bool.and_eq_true] at hv
    obtain ⟨p1, p2⟩ := plainN_ok hv.1
    have hN : X.N[i]? = some x := by rw [sc.N]; exact ixOfN_ok h
    refine pe_mono (pe_var hN (by rw [sc.sc]; exact visB_ok hv.2) p1 p2) fun σ H Q ⟨α, S, ρ, hr, he, hw⟩ => ?_
    have hw : Wp (gx X cl fa) (getV ρ i S) α H (PV1 (gx X cl fa) Q) (EW (gx X cl fa) W σ) := hw
    unfold getV at hw
    split at hw
    · rename_i v hv
      obtain ⟨w, h1, h2⟩ := he.at_ i v hv
      exact ⟨w, h1, hw.ok hr w h2⟩
    · exact hw.elim
  · cases h
theorem s_name (C : CxOk T tab cl fa pss n X W) (sc : ScOk c X) {x : Str} {pos : Pos} {ce : CE} (h : compName T c x = some ce) : PE X (.Name x pos) (LE (gx X cl fa) W (evalE (cxF tab n) ce)) := by
  unfold compName at h
  split at h
  · rename_i i hi
    cases h
    exact s_var sc hi
  · split at h
    · rename_i hg
      simp only [Bool.and_eq_true] at hg
      simp only [Option.map_eq_some_iff] at h
      obtain ⟨k, hk, rfl⟩ := h
      obtain ⟨v, u, w, h1, h2, h3, h4⟩ := C.nm.glob x k hk
      refine pe_mono (pe_glob (glbB_ok sc hg.2) h2 h3 (plainN_ok hg.1).1) fun σ H Q ⟨α, S, ρ, hr, he, hw⟩ => ?_
      unfold evalE at hw
      rw [show (cxF tab n).T.glob[k]? = some v from h1] at hw
      exact hw.ok hr w (h4 α H)
    · cases h
theorem s_const {k : Const} {j : Nat} {pos : Pos} {ce : CE} (h : compConst k = some ce) : PE X (.Constant k j pos) (LE (gx X cl fa) W (evalE (cxF tab n) ce)) := by
  cases k <;> first
    | (cases h; done)
    | skip
  · cases h
    exact pe_mono pe_non fun σ H Q ⟨α, S, ρ, hr, he, hw⟩ => hw.ok hr _ rfl
  · cases h
    exact pe_mono pe_bl fun σ H Q ⟨α, S, ρ, hr, he, hw⟩ => hw.ok hr _ rfl
  · cases h
    exact pe_mono pe_int fun σ H Q ⟨α, S, ρ, hr, he, hw⟩ => hw.ok hr _ rfl
  · cases h
    refine pe_mono pe_str fun σ H Q ⟨α, S, ρ, hr, he, hw⟩ => hw.ok hr _ ?_
    rfl
theorem bopC_ok {o : Operator} {op : BOp} (h : bopC o = some op) : o = bopO op := by
  cases o <;> cases h <;> rfl
theorem copC_ok {o : CmpOp} {op : COp} (h : copC o = some op) : o = copO op := by
  cases o <;> cases h <;> rfl
theorem s_bin {a b : Expr} {pos : Pos} {f h : Env → Store → R PV} {op : BOp} (ha : PE X a (LE (gx X cl fa) W f)) (hb : PE X b (LE (gx X cl fa) W h)) :
    PE X (.BinOp a (bopO op) b pos) (LE (gx X cl fa) W fun ρ S => (f ρ S).bind fun x S => (h ρ S).bind fun y S => bop op x y S) := by
  refine pe_mono (pe_op (o_bop (cl := cl) (fa := fa) op) ha hb) fun σ H Q ⟨α, S, ρ, hr, he, hw⟩ => ?_
  exact ⟨α, S, ρ, hr, he, hw.bind.imp1 fun α1 H1 x S1 e1 r1 q1 w1 v1 => ⟨α1, S1, ρ, r1, he.ext e1, q1.bind.imp1 fun α2 H2 y S2 e2 r2 q2 w2 v2 => ⟨α2, S2, x, y, _, r2, v1.ext e2, v2, q2⟩⟩⟩
theorem notSet_marks {op : CmpOp} {b : Expr} (h : isSet b = false) : behindInMarks op b = false := by
  cases b <;> first
    | rfl
    | cases h
theorem hu64 (C : CxOk T tab cl fa pss n X W) : X.A.units + 64 < cLine := C.room.units
/-- the two values of a comparison -/
theorem s_cmp_core {f h : Env → Store → R PV} {op : COp} {σ : L2.St} {H : Hp} {Q : VK} (hh : LE (gx X cl fa) W (fun ρ S => (f ρ S).bind fun x S => (h ρ S).bind fun y S => (ofO (cop op x y S) S).bind fun k S => .ok (.bl k) S) σ H Q) :
    tOp (LC (gx X cl fa) (cop op)) (LE (gx X cl fa) W f) (LE (gx X cl fa) W h) σ H Q := by
  obtain ⟨α, S, ρ, hr, he, hw⟩ := hh
  refine ⟨α, S, ρ, hr, he, hw.bind.imp1 fun α1 H1 x S1 e1 r1 q1 w1 v1 => ⟨α1, S1, ρ, r1, he.ext e1, q1.bind.imp1 fun α2 H2 y S2 e2 r2 q2 w2 v2 => ?_⟩⟩
  rw [ofO_bind] at q2
  split at q2
  · rename_i k hk
    exact ⟨α2, S2, x, y, k, r2, v1.ext e2, v2, hk, q2.ok r2 _ rfl⟩
  · exact q2.elim
theorem s_cmp (C : CxOk T tab cl fa pss n X W) {a b : Expr} {pos : Pos} {f h : Env → Store → R PV} {op : COp} (ha : PE X a (LE (gx X cl fa) W f)) (hb : PE X b (LE (gx X cl fa) W h)) (hs : isSet b = false) :
    PE X (.Compare a [copO op] [b] pos) (LE (gx X cl fa) W fun ρ S => (f ρ S).bind fun x S => (h ρ S).bind fun y S => (ofO (cop op x y S) S).bind fun k S => .ok (.bl k) S) :=
  pe_mono (pe_cmpR (o_cop (cl := cl) (fa := fa) (hu64 C) op) ha hb (notSet_marks hs)) fun σ H Q hh => s_cmp_core hh
theorem LTt_of {f : Env → Store → R PV} {σ : L2.St} {H : Hp} {Q : Bool → Hp → Prop} (hh : LTt (gx X cl fa) W (fun ρ S => (f ρ S).bind fun x S => ofO (truthy S x) S) σ H Q) :
    LE (gx X cl fa) W f σ H fun x H' => ∃ k, TruV X.K x H' k ∧ Q k H' := by
  obtain ⟨α, S, ρ, hr, he, hw⟩ := hh
  refine ⟨α, S, ρ, hr, he, hw.bind.imp1 fun α1 H1 x S1 e1 r1 q1 w1 v1 => ?_⟩
  obtain ⟨k, hk, q2⟩ := q1.ofO
  exact ⟨k, tru_of (X := X) r1 v1 hk, q2.ok r1⟩
theorem LTt_bl {f : Env → Store → R PV} {σ : L2.St} {H : Hp} {Q : Bool → Hp → Prop} (hf : ∀ ρ S v S', f ρ S = .ok v S' → ∃ k, v = .bl k) (hh : LTt (gx X cl fa) W (fun ρ S => (f ρ S).bind fun x S => ofO (truthy S x) S) σ H Q) :
    LE (gx X cl fa) W f σ H fun x H' => ∃ k, x = .bl k ∧ Q k H' := by
  obtain ⟨α, S, ρ, hr, he, hw⟩ := hh
  refine ⟨α, S, ρ, hr, he, ?_⟩
  have hw : Wp (gx X cl fa) ((f ρ S).bind fun x S => ofO (truthy S x) S) α H (fun _ H' b _ => Q b H') (EW (gx X cl fa) W σ) := hw
  cases hv : f ρ S with
  | ok v S' =>
    obtain ⟨k, rfl⟩ := hf ρ S v S' hv
    rw [hv] at hw
    intro α1 H1 e1 r1 w1 v1
    cases v1
    exact ⟨k, rfl, (Wp.ok (show Wp (gx X cl fa) (.ok k S') α1 H1 (fun _ H' b _ => Q b H') (EW (gx X cl fa) W σ) from Wp.ext hw e1) r1)⟩
  | exc x S' => rw [hv] at hw; exact hw
  | stuck => rw [hv] at hw; exact hw.elim
theorem cmp_bl {f h : Env → Store → R PV} {op : COp} (ρ : Env) (S : Store) (v : PV) (S' : Store) (e : ((f ρ S).bind fun x S => (h ρ S).bind fun y S => (ofO (cop op x y S) S).bind fun k S => .ok (.bl k) S) = .ok v S') : ∃ k, v = .bl k := by
  cases hx : f ρ S with
  | ok x S1 =>
    rw [hx] at e
    simp only [R.bind] at e
    cases hy : h ρ S1 with
    | ok y S2 =>
      rw [hy] at e
      simp only [R.bind] at e
      cases hc : cop op x y S2 with
      | none => rw [hc] at e; cases e
      | some k => rw [hc] at e; cases e; exact ⟨k, rfl⟩
    | exc x S1 => rw [hy] at e; cases e
    | stuck => rw [hy] at e; cases e
  | exc x S1 => rw [hx] at e; cases e
  | stuck => rw [hx] at e; cases e
theorem t_cmp (C : CxOk T tab cl fa pss n X W) {a b : Expr} {pos : Pos} {f h : Env → Store → R PV} {op : COp} (ha : PE X a (LE (gx X cl fa) W f)) (hb : PE X b (LE (gx X cl fa) W h)) (hs : isSet b = false) :
    PT X (.Compare a [copO op] [b] pos) (LTt (gx X cl fa) W fun ρ S => ((f ρ S).bind fun x S => (h ρ S).bind fun y S => (ofO (cop op x y S) S).bind fun k S => .ok (.bl k) S).bind fun x S => ofO (truthy S x) S) :=
  pt_mono (pt_cmpR (o_cop (cl := cl) (fa := fa) (hu64 C) op) ha hb (notSet_marks hs)) fun σ H Q hh => s_cmp_core (LTt_bl cmp_bl hh)
abbrev chnF (f h k : Env → Store → R PV) (o1 o2 : COp) : Env → Store → R PV := fun ρ S => (f ρ S).bind fun x S => (h ρ S).bind fun y S => (ofO (cop o1 x y S) S).bind fun b S =>
      if b then (k ρ S).bind fun z S => (ofO (cop o2 y z S) S).bind fun b S => .ok (.bl b) S else .ok (.bl false) S
theorem s_chn_core {f h k : Env → Store → R PV} {o1 o2 : COp} {σ : L2.St} {H : Hp} {Q : VK} (hh : LE (gx X cl fa) W (chnF f h k o1 o2) σ H Q) :
    tChain (LC (gx X cl fa) (cop o1)) (LC (gx X cl fa) (cop o2)) (LE (gx X cl fa) W f) (LE (gx X cl fa) W h) (LE (gx X cl fa) W k) σ H Q := by
  obtain ⟨α, S, ρ, hr, he, hw⟩ := hh
  refine ⟨α, S, ρ, hr, he, hw.bind.imp1 fun α1 H1 x S1 e1 r1 q1 w1 v1 => ⟨α1, S1, ρ, r1, he.ext e1, q1.bind.imp1 fun α2 H2 y S2 e2 r2 q2 w2 v2 => ?_⟩⟩
  rw [ofO_bind] at q2
  split at q2
  · rename_i b hk
    refine ⟨α2, S2, x, y, b, r2, v1.ext e2, v2, hk, b, rfl, ?_⟩
    cases b with
    | false => exact q2.ok r2 _ rfl
    | true =>
      refine ⟨α2, S2, ρ, r2, (he.ext e1).ext e2, (Wp.bind q2).imp1 fun α3 H3 z S3 e3 r3 q3 w3 v3 => ?_⟩
      rw [ofO_bind] at q3
      split at q3
      · rename_i b2 hk2
        exact ⟨α3, S3, y, z, b2, r3, v2.ext e3, v3, hk2, q3.ok r3 _ rfl⟩
      · exact q3.elim
  · exact q2.elim
theorem chn_bl {f h k : Env → Store → R PV} {o1 o2 : COp} (ρ : Env) (S : Store) (v : PV) (S' : Store) (e : chnF f h k o1 o2 ρ S = .ok v S') : ∃ k, v = .bl k := by
  unfold chnF at e
  cases hx : f ρ S with
  | ok x S1 =>
    rw [hx] at e
    simp only [R.bind] at e
    cases hy : h ρ S1 with
    | ok y S2 =>
      rw [hy] at e
      simp only [R.bind] at e
      cases hc : cop o1 x y S2 with
      | none => rw [hc] at e; cases e
      | some b =>
        rw [hc] at e
        simp only [ofO] at e
        cases b with
        | false => cases e; exact ⟨_, rfl⟩
        | true =>
          simp only [if_true] at e
          cases hz : k ρ S2 with
          | ok z S3 =>
            rw [hz] at e
            simp only [R.bind] at e
            cases hc2 : cop o2 y z S3 with
            | none => rw [hc2] at e; cases e
            | some b2 => rw [hc2] at e; cases e; exact ⟨_, rfl⟩
          | exc x S1 => rw [hz] at e; cases e
          | stuck => rw [hz] at e; cases e
    | exc x S1 => rw [hy] at e; cases e
    | stuck => rw [hy] at e; cases e
  | exc x S1 => rw [hx] at e; cases e
  | stuck => rw [hx] at e; cases e
theorem lastMarks_ok {o1 o2 : CmpOp} {b e : Expr} (h : isSet e = false) : lastMarks [o1, o2] [b, e] = false := by
  show lastMarks [o2] [e] = false
  show behindInMarks o2 e = false
  exact notSet_marks h
theorem s_chn (C : CxOk T tab cl fa pss n X W) {a b e : Expr} {pos : Pos} {f h k : Env → Store → R PV} {o1 o2 : COp} (ha : PE X a (LE (gx X cl fa) W f)) (hb : PE X b (LE (gx X cl fa) W h)) (he : PE X e (LE (gx X cl fa) W k)) (hs : isSet e = false) :
    PE X (.Compare a [copO o1, copO o2] [b, e] pos) (LE (gx X cl fa) W (chnF f h k o1 o2)) :=
  pe_mono (pe_chain (o_cop (cl := cl) (fa := fa) (hu64 C) o1) (o_cop (cl := cl) (fa := fa) (hu64 C) o2) ha hb he (lastMarks_ok hs)) fun σ H Q hh => s_chn_core hh
theorem t_chn (C : CxOk T tab cl fa pss n X W) {a b e : Expr} {pos : Pos} {f h k : Env → Store → R PV} {o1 o2 : COp} (ha : PE X a (LE (gx X cl fa) W f)) (hb : PE X b (LE (gx X cl fa) W h)) (he : PE X e (LE (gx X cl fa) W k)) (hs : isSet e = false) :
    PT X (.Compare a [copO o1, copO o2] [b, e] pos) (LTt (gx X cl fa) W fun ρ S => (chnF f h k o1 o2 ρ S).bind fun x S => ofO (truthy S x) S) :=
  pt_mono (pt_chain (o_cop (cl := cl) (fa := fa) (hu64 C) o1) (o_cop (cl := cl) (fa := fa) (hu64 C) o2) ha hb he (lastMarks_ok hs)) fun σ H Q hh => s_chn_core (LTt_bl chn_bl hh)
/-- a list of expressions -/
theorem s_list {F : Expr → Option CE} (hF : ∀ e ce, F e = some ce → PE X e (LE (gx X cl fa) W (evalE (cxF tab n) ce))) : ∀ {es : List Expr} {ces : CEs}, listM F es = some ces → PA X es (LA (gx X cl fa) W (evalEs (cxF tab n) ces))
  | [], ces, h => by
    cases h
    exact pa_mono pa_nil fun σ H Q ⟨α, S, ρ, hr, he, hw⟩ => hw.ok hr [] rfl
  | e :: es, ces, h => by
    simp only [listM] at h
    split at h
    · cases h
    · rename_i hst
      split at h
      · rename_i ce cs h1 h2
        cases h
        have hs : starEach (e :: es) X.env = (false, eval e X.env) :: starEach es X.env := by
          cases e <;> first
            | rfl
            | exact absurd rfl hst
        refine pa_mono (pa_cons (hF _ _ h1) (s_list hF h2) hs) fun σ H Q ⟨α, S, ρ, hr, he, hw⟩ => ?_
        unfold evalEs at hw
        exact ⟨α, S, ρ, hr, he, hw.bind.imp1 fun α1 H1 x S1 e1 r1 q1 w1 v1 => ⟨α1, S1, ρ, r1, he.ext e1, q1.bind.imp1 fun α2 H2 xs S2 e2 r2 q2 ws vs => q2.ok r2 _ ⟨w1, ws, rfl, v1.ext e2, vs⟩⟩⟩
      · cases h
theorem listM_star {F : Expr → Option CE} : ∀ {es : List Expr} {ces : CEs} (env : PySem.Env) (pos : Pos), listM F es = some ces → (backTo pos (starEach es env)).any (·.1) = false
  | [], _, _, _, _ => rfl
  | e :: es, ces, env, pos, h => by
    simp only [listM] at h
    split at h
    · cases h
    · rename_i hst
      split at h
      · rename_i ce cs h1 h2
        have ih := listM_star env pos h2
        have hs : starEach (e :: es) env = (false, eval e env) :: starEach es env := by
          cases e <;> first
            | rfl
            | exact absurd rfl hst
        rw [hs]
        simpa [backTo] using ih
      · cases h
theorem listM_cons {F : Expr → Option CE} {e : Expr} {es : List Expr} {ces : CEs} (h : listM F (e :: es) = some ces) : ∃ c cs, F e = some c ∧ listM F es = some cs ∧ ces = .cons c cs ∧ isStar e = false := by
  simp only [listM] at h
  split at h
  · cases h
  · rename_i hst
    split at h
    · rename_i c cs h1 h2
      cases h
      exact ⟨c, cs, h1, h2, rfl, by simpa using hst⟩
    · cases h
theorem star_cons {e : Expr} {es : List Expr} {env : PySem.Env} (h : isStar e = false) : starEach (e :: es) env = (false, eval e env) :: starEach es env := by
  cases e <;> first
    | rfl
    | cases h
theorem s_tup {es : List Expr} {k : Nat} {pos : Pos} {f : Env → Store → R (List PV)} (h : PA X es (LA (gx X cl fa) W f)) : PE X (.Tuple es k pos) (LE (gx X cl fa) W fun ρ S => (f ρ S).bind fun xs S => if xs.length ≤ nsz then .ok (.tup xs) S else .stuck) := by
  refine pe_mono (pe_tup h) fun σ H Q ⟨α, S, ρ, hr, he, hw⟩ => ?_
  refine ⟨α, S, ρ, hr, he, hw.bind.imp1 fun α1 H1 xs S1 e1 r1 q1 ws vs => ?_⟩
  split at q1
  · rename_i hl
    exact ⟨by rw [← vs.length, ← nsz_eq]; exact hl, q1.tup r1 vs⟩
  · exact q1.elim
theorem s_lst {es : List Expr} {pos : Pos} {f : Env → Store → R (List PV)} (h : PA X es (LA (gx X cl fa) W f)) : PE X (.List es pos) (LE (gx X cl fa) W fun ρ S => (f ρ S).bind fun xs S => if xs.length ≤ nsz then .ok (.ref S.length) (S ++ [.lst xs]) else .stuck) := by
  refine pe_mono (pe_lst h) fun σ H Q ⟨α, S, ρ, hr, he, hw⟩ => ?_
  refine ⟨α, S, ρ, hr, he, hw.bind.imp1 fun α1 H1 xs S1 e1 r1 q1 ws vs => ?_⟩
  split at q1
  · rename_i hl
    exact ⟨by rw [← vs.length, ← nsz_eq]; exact hl, q1.lst r1 vs⟩
  · exact q1.elim
theorem s_neg {a : Expr} {pos : Pos} {f : Env → Store → R PV} (ha : PE X a (LE (gx X cl fa) W f)) : PE X (.UnaryOp .USub a pos) (LE (gx X cl fa) W fun ρ S => (f ρ S).bind fun x S => match x with
    | .int i => .ok (.int (-i)) S
    | _ => .stuck) := by
  refine pe_mono (pe_un un_neg ha) fun σ H Q ⟨α, S, ρ, hr, he, hw⟩ => ?_
  refine ⟨α, S, ρ, hr, he, hw.bind.imp1 fun α1 H1 x S1 e1 r1 q1 w v => ?_⟩
  cases x <;> first
    | exact q1.elim
    | (cases v; exact ⟨_, rfl, q1.ok r1 _ rfl⟩)
theorem s_tru {f : Env → Store → R PV} {h : PV → Bool → Env → Store → R PV} {σ : L2.St} {H : Hp} {Q : VK} (hh : LE (gx X cl fa) W (fun ρ S => (f ρ S).bind fun x S => (ofO (truthy S x) S).bind fun k S => h x k ρ S) σ H Q) :
    LE (gx X cl fa) W f σ H fun w H' => ∃ k, TruV X.K w H' k ∧ ∃ α S ρ x, Rep (gx X cl fa) α S H' ∧ RE (gx X cl fa) α H' ρ σ ∧ RV X.K α H' x w ∧ Wp (gx X cl fa) (h x k ρ S) α H' (PV1 (gx X cl fa) Q) (EW (gx X cl fa) W σ) := by
  obtain ⟨α, S, ρ, hr, he, hw⟩ := hh
  refine ⟨α, S, ρ, hr, he, hw.bind.imp1 fun α1 H1 x S1 e1 r1 q1 w1 v1 => ?_⟩
  rw [ofO_bind] at q1
  split at q1
  · rename_i k hk
    exact ⟨k, tru_of (X := X) r1 v1 hk, α1, S1, ρ, x, r1, he.ext e1, v1, q1⟩
  · exact q1.elim
theorem s_not {a : Expr} {pos : Pos} {f : Env → Store → R PV} (ha : PE X a (LE (gx X cl fa) W f)) : PE X (.UnaryOp .Not a pos) (LE (gx X cl fa) W fun ρ S => (f ρ S).bind fun x S => (ofO (truthy S x) S).bind fun k S => .ok (.bl (!k)) S) := by
  refine pe_mono (pe_notT ha) fun σ H Q hh => ?_
  have := s_tru (h := fun x k ρ S => .ok (.bl (!k)) S) hh
  obtain ⟨α, S, ρ, hr, he, hw⟩ := this
  refine ⟨α, S, ρ, hr, he, hw.imp1 fun α1 H1 x S1 e1 r1 q1 w1 v1 => ?_⟩
  obtain ⟨k, t, α2, S2, ρ2, x2, r2, he2, v2, q2⟩ := q1 w1 v1
  exact ⟨k, t, q2.ok r2 _ rfl⟩
theorem s_and {a b : Expr} {rest : List Expr} {pos : Pos} {f h : Env → Store → R PV} (ha : PE X a (LE (gx X cl fa) W f)) (hb : PE X (.BoolOp .And (b :: rest) pos) (LE (gx X cl fa) W h)) :
    PE X (.BoolOp .And (a :: b :: rest) pos) (LE (gx X cl fa) W fun ρ S => (f ρ S).bind fun x S => (ofO (truthy S x) S).bind fun k S => if k then h ρ S else .ok x S) := by
  refine pe_mono (pe_andT ha hb) fun σ H Q hh => ?_
  obtain ⟨α, S, ρ, hr, he, hw⟩ := s_tru (h := fun x k ρ S => if k then h ρ S else .ok x S) hh
  refine ⟨α, S, ρ, hr, he, hw.imp1 fun α1 H1 x S1 e1 r1 q1 w1 v1 => ?_⟩
  obtain ⟨k, t, α2, S2, ρ2, x2, r2, he2, v2, q2⟩ := q1 w1 v1
  refine ⟨k, t, ?_⟩
  cases k with
  | true => exact ⟨α2, S2, ρ2, r2, he2, q2⟩
  | false => exact q2.ok r2 _ v2
theorem s_or {a b : Expr} {rest : List Expr} {pos : Pos} {f h : Env → Store → R PV} (ha : PE X a (LE (gx X cl fa) W f)) (hb : PE X (.BoolOp .Or (b :: rest) pos) (LE (gx X cl fa) W h)) :
    PE X (.BoolOp .Or (a :: b :: rest) pos) (LE (gx X cl fa) W fun ρ S => (f ρ S).bind fun x S => (ofO (truthy S x) S).bind fun k S => if k then .ok x S else h ρ S) := by
  refine pe_mono (pe_orT ha hb) fun σ H Q hh => ?_
  obtain ⟨α, S, ρ, hr, he, hw⟩ := s_tru (h := fun x k ρ S => if k then .ok x S else h ρ S) hh
  refine ⟨α, S, ρ, hr, he, hw.imp1 fun α1 H1 x S1 e1 r1 q1 w1 v1 => ?_⟩
  obtain ⟨k, t, α2, S2, ρ2, x2, r2, he2, v2, q2⟩ := q1 w1 v1
  refine ⟨k, t, ?_⟩
  cases k with
  | true => exact q2.ok r2 _ v2
  | false => exact ⟨α2, S2, ρ2, r2, he2, q2⟩
theorem testE_def (cx : Cxi) (ce : CE) : testE cx ce = fun ρ S => (evalE cx ce ρ S).bind fun x S => ofO (truthy S x) S := rfl
theorem s_ife {t a b : Expr} {pos : Pos} {ct : CE} {f h : Env → Store → R PV} (ht : PT X t (LTt (gx X cl fa) W (testE (cxF tab n) ct))) (ha : PE X a (LE (gx X cl fa) W f)) (hb : PE X b (LE (gx X cl fa) W h)) :
    PE X (.IfExp t a b pos) (LE (gx X cl fa) W fun ρ S => (evalE (cxF tab n) ct ρ S).bind fun x S => (ofO (truthy S x) S).bind fun k S => if k then f ρ S else h ρ S) := by
  refine pe_mono (pe_ifExp ht ha hb) fun σ H Q ⟨α, S, ρ, hr, he, hw⟩ => ?_
  refine ⟨α, S, ρ, hr, he, ?_⟩
  have hw2 : Wp (gx X cl fa) ((testE (cxF tab n) ct ρ S).bind fun k S => if k then f ρ S else h ρ S) α H (PV1 (gx X cl fa) Q) (EW (gx X cl fa) W σ) := by
    unfold testE
    rw [R.bind_assoc]
    exact hw
  refine hw2.bind.imp1 fun α1 H1 k S1 e1 r1 q1 => ?_
  cases k with
  | true => exact ⟨α1, S1, ρ, r1, he.ext e1, q1⟩
  | false => exact ⟨α1, S1, ρ, r1, he.ext e1, q1⟩
theorem plainIx_of {b : Expr} (h : isSlice b = false) : PlainIx b := by
  intro o i
  cases b <;> first
    | rfl
    | cases h
theorem s_idx (C : CxOk T tab cl fa pss n X W) {a b : Expr} {pos : Pos} {f h : Env → Store → R PV} (ha : PE X a (LE (gx X cl fa) W f)) (hb : PE X b (LE (gx X cl fa) W h)) (hs : isSlice b = false) :
    PE X (.Subscript a b pos) (LE (gx X cl fa) W fun ρ S => (f ρ S).bind fun x S => (h ρ S).bind fun y S => ofO (getIx x y S) S) := by
  refine pe_mono (pe_ix (o_ix (cl := cl) (fa := fa) (hu64 C)) ha hb (plainIx_of hs)) fun σ H Q ⟨α, S, ρ, hr, he, hw⟩ => ?_
  refine ⟨α, S, ρ, hr, he, hw.bind.imp1 fun α1 H1 x S1 e1 r1 q1 w1 v1 => ⟨α1, S1, ρ, r1, he.ext e1, q1.bind.imp1 fun α2 H2 y S2 e2 r2 q2 w2 v2 => ?_⟩⟩
  obtain ⟨v, hv, q3⟩ := q2.ofO
  exact ⟨α2, S2, x, y, v, r2, v1.ext e2, v2, hv, q3.ok r2⟩
theorem s_kdi (C : CxOk T tab cl fa pss n X W) (sc : ScOk c X) {x : Str} {p pos : Pos} {b : Expr} {k : Nat} {cb : CE} (hk : T.kds.lookup x = some k) (hp : plainN x = true) (hg : glbB c.sc x = true) (hs : isSlice b = false) (hb : PE X b (LE (gx X cl fa) W (evalE (cxF tab n) cb))) :
    PE X (.Subscript (.Name x p) b pos) (LE (gx X cl fa) W (evalE (cxF tab n) (.kdi k cb))) := by
  obtain ⟨kvs, d, h1, h2, h3⟩ := C.nm.kds x k hk
  refine pe_mono (pe_ix (ix_kdict (X := X)) (pe_glob (v := .ref d) (glbB_ok sc hg) h2 rfl (plainN_ok hp).1) hb (plainIx_of hs)) fun σ H Q ⟨α, S, ρ, hr, he, hw⟩ => ?_
  unfold evalE at hw
  refine ⟨α, S, ρ, hr, he, hw.bind.imp1 fun α1 H1 y S1 e1 r1 q1 w1 v1 => ?_⟩
  rw [show (cxF tab n).T.kds[k]? = some kvs from h1] at q1
  cases y <;> first
    | exact q1.elim
    | skip
  cases v1
  obtain ⟨v, hv, q3⟩ := q1.ofO
  obtain ⟨v0, h4, h5⟩ := h3 _ _ hv
  exact ⟨d, _, v0, rfl, rfl, h4, q3.ok r1 _ (h5 _ _)⟩
theorem s_opt {F : Expr → Option CE} (hF : ∀ e ce, F e = some ce → PE X e (LE (gx X cl fa) W (evalE (cxF tab n) ce))) {o : Option Expr} {co : CO} (h : optE F o = some co) : ∃ t, PO X o t ∧ ∀ σ H Q, LO (gx X cl fa) W (evalO (cxF tab n) co) σ H Q → t σ H Q := by
  cases o with
  | none =>
    cases h
    exact ⟨_, po_none, fun σ H Q ⟨α, S, ρ, hr, he, hw⟩ => hw.ok hr⟩
  | some e =>
    simp only [optE, Option.map_eq_some_iff] at h
    obtain ⟨ce, h1, rfl⟩ := h
    refine ⟨_, po_some (hF e ce h1), fun σ H Q ⟨α, S, ρ, hr, he, hw⟩ => ⟨α, S, ρ, hr, he, ?_⟩⟩
    unfold evalO at hw
    refine hw.bind.imp1 fun α1 H1 x S1 e1 r1 q1 w1 v1 => ?_
    cases x <;> first
      | exact q1.elim
      | (cases v1; exact ⟨_, rfl, q1.ok r1⟩)
theorem s_slc {a : Expr} {lo hi : Option Expr} {p2 pos : Pos} {f : Env → Store → R PV} {cl1 ch : CO} {tl th : TO} (ha : PE X a (LE (gx X cl fa) W f)) (hl : PO X lo tl) (hl' : ∀ σ H Q, LO (gx X cl fa) W (evalO (cxF tab n) cl1) σ H Q → tl σ H Q)
    (hh : PO X hi th) (hh' : ∀ σ H Q, LO (gx X cl fa) W (evalO (cxF tab n) ch) σ H Q → th σ H Q) :
    PE X (.Subscript a (.Slice lo hi none p2) pos) (LE (gx X cl fa) W fun ρ S => (f ρ S).bind fun x S => (evalO (cxF tab n) cl1 ρ S).bind fun l S => (evalO (cxF tab n) ch ρ S).bind fun h S => getSl x l h S) := by
  refine pe_mono (pe_slice (o_sl (cl := cl) (fa := fa)) ha hl hh) fun σ H Q ⟨α, S, ρ, hr, he, hw⟩ => ?_
  refine ⟨α, S, ρ, hr, he, hw.bind.imp1 fun α1 H1 x S1 e1 r1 q1 w1 v1 => hl' _ _ _ ⟨α1, S1, ρ, r1, he.ext e1, q1.bind.imp1 fun α2 H2 l S2 e2 r2 q2 => hh' _ _ _ ⟨α2, S2, ρ, r2, (he.ext e1).ext e2, q2.bind.imp1 fun α3 H3 h S3 e3 r3 q3 => ?_⟩⟩⟩
  exact ⟨α3, S3, x, _, r3, (v1.ext e2).ext e3, q3⟩
theorem isi_boot : bootBuiltins "isinstance" = some (.builtin "isinstance") := by decide +kernel
theorem ty_boot (t : Ty) : bootBuiltins (tyN t) = some (.type (tyN t)) := by cases t <;> decide +kernel
theorem s_isi (C : CxOk T tab cl fa pss n X W) {a : Expr} {t : Ty} {p q pos : Pos} {f : Env → Store → R PV} (ha : PE X a (LE (gx X cl fa) W f)) (hst : isStar a = false) (g1 : Gl X "isinstance") (g2 : Gl X (tyN t)) (hn : tyN t ≠ ("__name__" : Str)) (hd : ((tyN t : Str) == ("__debug__" : Str)) = false) :
    PE X (.Call (.Name "isinstance" p) [a, .Name (tyN t) q] [] pos) (LE (gx X cl fa) W fun ρ S => (f ρ S).bind fun x S => (ofO (isTy S x t) S).bind fun k S => .ok (.bl k) S) := by
  have hp : PA X [a, .Name (tyN t) q] (tCons (LE (gx X cl fa) W f) (tCons (tC (.ty (tyN t))) tNil)) := pa_cons ha (pa_cons (pe_bltn g2 (C.nm.freeT t) (ty_boot t) rfl hn hd) pa_nil) (star_cons hst)
  refine pe_mono (pe_callB call_isi g1 C.nm.isi isi_boot hp (he := star_cons hst) (hpl := by rfl)) fun σ H Q ⟨α, S, ρ, hr, he, hw⟩ => ?_
  refine ⟨α, S, ρ, hr, he, hw.bind.imp1 fun α1 H1 x S1 e1 r1 q1 w1 v1 => ?_⟩
  rw [ofO_bind] at q1
  split at q1
  · rename_i k hk
    obtain ⟨nm, t1, t2⟩ := isi_of (X := X) r1 v1 hk
    exact ⟨_, _, _, _, k, rfl, .ty _, t1, t2, q1.ok r1 _ rfl⟩
  · exact q1.elim
end
end L3
set_option maxRecDepth 100000
/-! L3Snd2: calls, targets, iterators, comprehensions; every compiled expression. -/
namespace L3
open PySem PySem.Spec PyProof.Rows L2
section
variable {X : Cx} {T : GT} {tab : Tab} {cl fa : Nat → Addr} {pss : Nat → List Str} {n : Nat} {W : WX} {c : Sc}
theorem fn_at (C : CxOk T tab cl fa pss n X W) {x : Str} {f : Nat} (h : T.fns.lookup x = some f) : ∃ fn, tab.fns[f]? = some fn ∧ X.mg x = some (.ref (fa f)) := by
  obtain ⟨h1, h2⟩ := C.nm.fns x f h
  exact ⟨tab.fns[f], by simp [h2], h1⟩
theorem callF_np {tab : Tab} {n f : Nat} {fn : Fn} (hf : tab.fns[f]? = some fn) {args : List PV} {S : Store} (h : args.length ≠ fn.np) : callF tab n f args S = .stuck := by
  cases n with
  | zero => rfl
  | succ n =>
    rw [callF_succ, hf]
    simp only
    rw [if_neg h]
theorem pe_callS0 {X : Cx} {CX : CXT} {k : Nat} {f : Addr} {fd : FuncData} {ps : List Str} {sp : Sp} {E : L2.St → XK} {x : Str} {p pos : Pos} (F : FnOk X.prog X.w X.K X.mg X.base CX k f fd ps sp) (hr : Room k X.A) (hg : Gl X x) (hm : X.mg x = some (.ref f)) (hk : PySem.W.keepIn X.K (.ref f) = true)
    (hb : Binds X.K fd ps []) (hx : ∀ σ, PassesAt CX X σ (E σ)) (hdb : (x == ("__debug__" : Str)) = false) : PE X (.Call (.Name x p) [] [] pos) (tCallS sp E tNil) := by
  refine ⟨fun pins s σ H Q I h => ?_⟩
  refine wpAny_Call_Name_kw (ld_glob I hg hm ?_ hdb)
  exact PySem.W.callWith_K0 I.kIn hk (run_fnS (us := []) F hr hb (hx σ) I .nil h)
theorem sp_of {fn : Fn} {f : Nat} (h1 : tab.fns[f]? = some fn) {α : List Addr} {H : Hp} {S : Store} {xs : List PV} {ws : List V} {Q : VK} {σ : L2.St} (r : Rep (gx X cl fa) α S H) (vs : RVs X.K α H xs ws)
    (q : Wp (gx X cl fa) (callF tab n f xs S) α H (PV1 (gx X cl fa) Q) (EW (gx X cl fa) W σ)) : spOf (gx X cl fa) tab n f fn.np ws H Q (WE W σ) := by
  refine ⟨?_, α, S, xs, r, vs, q⟩
  rw [← vs.length]
  exact Classical.byContradiction fun z => by
    rw [callF_np h1 z] at q
    exact q.elim
theorem s_cal0 (C : CxOk T tab cl fa pss n X W) {x : Str} {f : Nat} {p pos : Pos} (hf : T.fns.lookup x = some f) (hg : Gl X x) (hd : (x == ("__debug__" : Str)) = false) :
    PE X (.Call (.Name x p) [] [] pos) (LE (gx X cl fa) W fun ρ S => callF tab n f [] S) := by
  obtain ⟨fn, h1, h2⟩ := fn_at C hf
  obtain ⟨k1, k2, fd, F, B⟩ := C.fns f fn h1
  exact pe_mono (pe_callS0 (E := WE W) F C.room hg h2 k2 B (fun σ => passAt C.tk σ) hd) fun σ H Q ⟨α, S, ρ, hr, he, hw⟩ => sp_of (xs := []) (ws := []) h1 hr rfl hw
theorem s_cal (C : CxOk T tab cl fa pss n X W) {x : Str} {f : Nat} {e : Expr} {es : List Expr} {p pos : Pos} {h : Env → Store → R (List PV)} (hf : T.fns.lookup x = some f) (hg : Gl X x) (hd : (x == ("__debug__" : Str)) = false) (ha : PA X (e :: es) (LA (gx X cl fa) W h))
    (hs : isStar e = false) (hs2 : (backTo pos (starEach es X.env)).any (·.1) = false) : PE X (.Call (.Name x p) (e :: es) [] pos) (LE (gx X cl fa) W fun ρ S => (h ρ S).bind fun xs S => callF tab n f xs S) := by
  obtain ⟨fn, h1, h2⟩ := fn_at C hf
  obtain ⟨k1, k2, fd, F, B⟩ := C.fns f fn h1
  exact pe_mono (pe_callS (E := WE W) F C.room hg h2 k2 B (fun σ => passAt C.tk σ) ha hd (star_cons hs) hs2) fun σ H Q ⟨α, S, ρ, hr, he, hw⟩ =>
    ⟨α, S, ρ, hr, he, hw.bind.imp1 fun α1 H1 xs S1 e1 r1 q1 ws vs => sp_of h1 r1 vs q1⟩
theorem bfOf_ok {x : Str} {b : BF} (h : bfOf x = some b) : x = (bfN b).1 := by
  unfold bfOf at h
  repeat (first
    | (split at h; · (rename_i e; cases h; exact e))
    | (cases h; done))
theorem s_bf (C : CxOk T tab cl fa pss n X W) {b : BF} {e : Expr} {es : List Expr} {p pos : Pos} {h : Env → Store → R (List PV)} (hg : Gl X (bfN b).1) (hd : ((bfN b).1 == ("__debug__" : Str)) = false) (ha : PA X (e :: es) (LA (gx X cl fa) W h))
    (hs : isStar e = false) (hs2 : (backTo pos (starEach es X.env)).any (·.1) = false) : PE X (.Call (.Name (bfN b).1 p) (e :: es) [] pos) (LE (gx X cl fa) W fun ρ S => (h ρ S).bind fun xs S => bfun b xs S) := by
  have hn : (bfN b).1 ≠ ("__name__" : Str) := by cases b <;> decide +kernel
  have fin : PE X (.Call (.Name (bfN b).1 p) (e :: es) [] pos) (tCB (LB (gx X cl fa) b) (LA (gx X cl fa) W h)) := by
    cases b
    all_goals first
      | exact pe_callB (b_bf C.calm _) hg (C.nm.free _) (bf_boot _) ha hn hd (star_cons hs) hs2
      | exact pe_callTy (b_bf C.calm _) hg (C.nm.free _) (bf_boot _) ha hn hd (star_cons hs) hs2
  exact pe_mono fin fun σ H Q ⟨α, S, ρ, hr, he, hw⟩ => ⟨α, S, ρ, hr, he, hw.bind.imp1 fun α1 H1 xs S1 e1 r1 q1 ws vs => ⟨α1, S1, xs, _, r1, vs, q1⟩⟩

/-! ### targets -/
theorem Wp.nox0 {g : G} {β γ : Type} {r : R β} {α : List Addr} {H : Hp} {E' : PP Exn} {f : β → Store → R γ} {Q : PP γ} (h : Wp g (r.nox.bind f) α H Q fun _ _ _ _ => False) : Wp g r α H (fun α' H' b S => Wp g (f b S) α' H' Q fun _ _ _ _ => False) E' := (Wp.bind h).nox
theorem ButSl.refl (sl : List Nat) (σ : L2.St) : ButSl sl σ σ := ⟨rfl, fun _ _ => rfl⟩
theorem ButSl.trans {a b : List Nat} {σ σ1 σ2 : L2.St} (h : ButSl a σ σ1) (h' : ButSl b σ1 σ2) : ButSl (a ++ b) σ σ2 :=
  ⟨h'.1.trans h.1, fun i hi => (h'.2 i fun z => hi (List.mem_append_right _ z)).trans (h.2 i fun z => hi (List.mem_append_left _ z))⟩
theorem locB_ok (sc : ScOk c X) {x : Str} (h : locB c x = true) : L2.Loc X.env.scope x ∧ (X.fn x = true ∨ X.env.scope.names.lookup x = some .local) := by
  unfold locB at h
  unfold L2.Loc
  rw [sc.sc, sc.fn]
  split at h
  · rename_i e; exact ⟨.inl e, .inr e⟩
  · rename_i e; exact ⟨.inr e, .inl h⟩
  · cases h
theorem g_name (C : CxOk T tab cl fa pss n X W) (sc : ScOk c X) {x : Str} {pos : Pos} {i : Nat} (hl : locB c x = true) (hi : ixOfN x c.N = some i) : PG X (.Name x pos) (LG (gx X cl fa) [i] (assignE (cxF tab n) (.name i))) := by
  obtain ⟨l1, l2⟩ := locB_ok sc hl
  refine pg_mono (pg_name C.nd (by rw [sc.N]; exact ixOfN_ok hi) l1 l2) fun v σ H Q ⟨α, S, ρ, x, hr, he, hv, hw⟩ => ?_
  unfold assignE at hw
  split at hw
  · refine (show Wp (gx X cl fa) (.ok (ρ.set i (some x)) S) α H (fun α' H' ρ' _ => ∀ σ', RE (gx X cl fa) α' H' ρ' σ' → ButSl [i] σ σ' → Q σ' H') (fun _ _ _ _ => False) from hw).ok hr _ (he.set hv) ⟨by simp, fun j hj => ?_⟩
    rw [List.getElem?_set_ne]
    intro z
    exact hj (by simp [z])
  · exact hw.elim
theorem nox_bind {α β : Type} (r : R α) (f : α → Store → R β) : (r.bind f).nox = r.nox.bind fun a S => (f a S).nox := by cases r <;> rfl
theorem gs_nil : PGs X [] (LGs (gx X cl fa) [] (assignEs (cxF tab n) .nil)) := by
  refine pgs_mono pgs_nil fun vs σ H Q ⟨α, S, ρ, xs, hr, he, hv, hw⟩ => ?_
  cases xs with
  | nil =>
    cases hv
    exact ⟨rfl, (show Wp (gx X cl fa) (.ok ρ S) α H (fun α' H' ρ' _ => ∀ σ', RE (gx X cl fa) α' H' ρ' σ' → ButSl [] σ σ' → Q σ' H') (fun _ _ _ _ => False) from hw).ok hr _ he (ButSl.refl _ _)⟩
  | cons x xs => exact hw.elim
theorem gs_cons {e : Expr} {es : List Expr} {t : CT} {ts : CTs} (h1 : PG X e (LG (gx X cl fa) t.slots (assignE (cxF tab n) t))) (h2 : PGs X es (LGs (gx X cl fa) ts.slots (assignEs (cxF tab n) ts)))
    (hs : (assignEach (e :: es) X.env).map (·.2) = assign e X.env :: (assignEach es X.env).map (·.2)) : PGs X (e :: es) (LGs (gx X cl fa) (t.slots ++ ts.slots) (assignEs (cxF tab n) (.cons t ts))) := by
  refine pgs_mono (pgs_cons h1 h2 hs) fun vs σ H Q ⟨α, S, ρ, xs, hr, he, hv, hw⟩ => ?_
  cases xs with
  | nil => exact hw.elim
  | cons x xs =>
    obtain ⟨w, ws, rfl, v1, v2⟩ := hv
    unfold assignEs at hw
    rw [nox_bind] at hw
    refine ⟨w, ws, rfl, α, S, ρ, x, hr, he, v1, hw.bind.imp1 fun α1 H1 ρ1 S1 e1 r1 q1 σ1 he1 b1 => ?_⟩
    refine ⟨α1, S1, ρ1, xs, r1, he1, v2.ext e1, q1.imp1 fun α2 H2 ρ2 S2 e2 r2 q2 σ2 he2 b2 => q2 σ2 he2 (b1.trans b2)⟩
theorem pg_or {e : Expr} {t t' : TG} (h : PG X e t) (h' : PG X e t') : PG X e (fun v σ H Q => t v σ H Q ∨ t' v σ H Q) := ⟨fun pins s σ H v u Q I r q => by
  rcases q with q | q
  · exact h.run pins s σ H v u Q I r q
  · exact h'.run pins s σ H v u Q I r q⟩
theorem g_tup (C : CxOk T tab cl fa pss n X W) {es : List Expr} {k : Nat} {pos : Pos} {ts : CTs} (h : PGs X es (LGs (gx X cl fa) ts.slots (assignEs (cxF tab n) ts))) (hl : (assignEach es X.env).length = es.length) (hst : (assignEach es X.env).findIdx? (·.1) = none)
    (hlen : ∀ xs ρ S, xs.length ≠ es.length → assignEs (cxF tab n) ts xs ρ S = .stuck ∨ ∃ x S', assignEs (cxF tab n) ts xs ρ S = .exc x S') : PG X (.Tuple es k pos) (LG (gx X cl fa) ts.slots (assignE (cxF tab n) (.tup ts))) := by
  refine pg_mono (pg_or (pg_tup C.calm h hl hst) (pg_unl C.calm h hl hst)) fun v σ H Q ⟨α, S, ρ, x, hr, he, hv, hw⟩ => ?_
  unfold assignE at hw
  cases x with
  | tup xs =>
    obtain ⟨a, vs, rfl, s1, r1⟩ := hv
    have hw : Wp (gx X cl fa) (assignEs (cxF tab n) ts xs ρ S).nox α H (fun α' H' ρ' _ => ∀ σ', RE (gx X cl fa) α' H' ρ' σ' → ButSl ts.slots σ σ' → Q σ' H') (fun _ _ _ _ => False) := hw
    refine .inl ⟨a, vs, rfl, SqT.of s1, ?_, α, S, ρ, xs, hr, he, r1, hw⟩
    rw [← r1.length]
    exact Classical.byContradiction fun z => by
      rcases hlen xs ρ S z with e | ⟨x, S', e⟩ <;> (rw [e] at hw; exact hw.elim)
  | ref p =>
    simp only at hw
    split at hw
    · rename_i xs hp
      obtain ⟨a, vs, rfl, ha, e1, r1⟩ := hr.list (X := X) hp hv
      refine .inr ⟨a, vs, rfl, SqL.of e1, ?_, α, S, ρ, xs, hr, he, r1, hw⟩
      rw [← r1.length]
      exact Classical.byContradiction fun z => by
        rcases hlen xs ρ S z with e | ⟨x, S', e⟩ <;> (rw [e] at hw; exact hw.elim)
    · exact hw.elim
  | _ => exact hw.elim
def CTs.len : CTs → Nat
  | .nil => 0
  | .cons _ ts => ts.len + 1
theorem assignEs_bad (cx : Cxi) : ∀ (ts : CTs) (xs : List PV) (ρ : Env) (S : Store), xs.length ≠ ts.len → assignEs cx ts xs ρ S = .stuck ∨ ∃ x S', assignEs cx ts xs ρ S = .exc x S'
  | .nil, [], _, _, h => absurd rfl h
  | .nil, _ :: _, _, _, _ => .inl rfl
  | .cons _ _, [], _, _, _ => .inl rfl
  | .cons t ts, x :: xs, ρ, S, h => by
    unfold assignEs
    cases e : assignE cx t x ρ S with
    | ok ρ' S' => exact assignEs_bad cx ts xs ρ' S' (fun z => h (by simp [CTs.len, z]))
    | exc x S' => exact .inr ⟨_, _, rfl⟩
    | stuck => exact .inl rfl
theorem set_dict (hu : X.A.units + 1 < cLine) : PSet X (fun o i v H Q => ∃ a H', o = .ref a ∧ DPut H a i v H' ∧ Q H') := by
  intro pins s σ H o i v ov iv u Q I ro ri rv ⟨a, H', e, g, q⟩
  subst e
  cases ro
  exact d_setItem hu I g ri rv fun s' I' => ⟨H', I', q⟩
theorem pset_or {t t' : TSet} (h : PSet X t) (h' : PSet X t') : PSet X (fun o i v H Q => t o i v H Q ∨ t' o i v H Q) := by
  intro pins s σ H o i v ov iv u Q I ro ri rv q
  rcases q with q | q
  · exact h pins s σ H o i v ov iv u Q I ro ri rv q
  · exact h' pins s σ H o i v ov iv u Q I ro ri rv q
/-- a place of a list or a dict is written -/
def rSetA : V → V → V → Hp → (Hp → Prop) → Prop := fun o i v H Q => rSetL o i v H Q ∨ ∃ a H', o = .ref a ∧ DPut H a i v H' ∧ Q H'
theorem set_all (C : CxOk T tab cl fa pss n X W) : PSet X rSetA := pset_or set_list (set_dict (by have := hu64 C; omega))
theorem setIx_of {α : List Addr} {S S3 : Store} {H : Hp} {a b x : PV} {w1 w2 v : V} {Q : Hp → Prop} (r : Rep (gx X cl fa) α S H) (h : setIx a b x S = some S3) (v1 : RV X.K α H a w1) (v2 : RV X.K α H b w2) (hv : RV X.K α H x v)
    (hQ : ∀ H', Ext α H α H' → Rep (gx X cl fa) α S3 H' → Q H') : rSetA w1 w2 v H Q := by
  unfold setIx at h
  split at h
  · split at h
    · rename_i xs hp
      split at h
      · rename_i k
        simp only [Option.map_eq_some_iff] at h
        obtain ⟨j, hj, rfl⟩ := h
        obtain ⟨ad, vs, rfl, ha, e3, r3⟩ := r.list (X := X) hp v1
        cases v2
        have hm := List.mem_of_getElem? ha
        have ex := Ext.set hm e3 rfl (.lst (vs.set j v))
        exact .inl ⟨ad, vs, k, j, rfl, rfl, e3, by rw [← r3.length]; exact hj, hQ _ ex (r.set ha ex.kp ⟨_, upd_same, RVs.set j (hv.ext ex) (r3.ext ex)⟩)⟩
      · cases h
    · rename_i t kvs hp
      split at h
      · rename_i hk
        simp only [Bool.and_eq_true, decide_eq_true_eq] at hk
        cases h
        obtain ⟨ad, H', rfl, g, ex, r3⟩ := r.dput (X := X) hp v1 hk.1 v2 hv hk.2
        exact .inr ⟨ad, H', rfl, g, hQ _ ex r3⟩
      · cases h
    · cases h
  · cases h
theorem g_sub (C : CxOk T tab cl fa pss n X W) {o i : Expr} {pos : Pos} {co ci : CE} (ho : PE X o (LE (gx X cl fa) W (evalE (cxF tab n) co))) (hi : PE X i (LE (gx X cl fa) W (evalE (cxF tab n) ci))) (hs : isSlice i = false) :
    PG X (.Subscript o i pos) (LG (gx X cl fa) [] (assignE (cxF tab n) (.sub co ci))) := by
  refine pg_mono (pg_sub ho hi (set_all C) (by
    intro v
    cases i <;> first
      | rfl
      | cases hs)) fun v σ H Q ⟨α, S, ρ, x, hr, he, hv, hw⟩ => ?_
  unfold assignE at hw
  rw [nox_bind] at hw
  have hw' := hw.nox0 (E' := EW (gx X cl fa) W σ)
  refine ⟨α, S, ρ, hr, he, hw'.imp1 fun α1 H1 a S1 e1 r1 q1 w1 v1 => ?_⟩
  rw [nox_bind] at q1
  refine ⟨α1, S1, ρ, r1, he.ext e1, (q1.nox0 (E' := EW (gx X cl fa) W σ)).imp1 fun α2 H2 b S2 e2 r2 q2 w2 v2 => ?_⟩
  cases hS : setIx a b x S2 with
  | none => rw [hS] at q2; exact q2.elim
  | some S3 =>
    rw [hS] at q2
    have q2 : Wp (gx X cl fa) (.ok ρ S3) α2 H2 (fun α' H' ρ' _ => ∀ σ', RE (gx X cl fa) α' H' ρ' σ' → ButSl [] σ σ' → Q σ' H') (fun _ _ _ _ => False) := q2
    exact setIx_of r2 hS (v1.ext e2) v2 ((hv.ext e1).ext e2) fun H' ex r3 => q2.okE ex r3 σ (((he.ext e1).ext e2).ext ex) (ButSl.refl _ _)
end
end L3
set_option maxRecDepth 100000
/-! L3Snd3: what is walked, comprehensions; every compiled expression. -/
namespace L3
open PySem PySem.Spec PyProof.Rows L2
section
variable {X : Cx} {T : GT} {tab : Tab} {cl fa : Nat → Addr} {pss : Nat → List Str} {n : Nat} {W : WX} {c : Sc}
theorem s_iseq {tg e : Expr} {ce : CE} (he : PE X e (LE (gx X cl fa) W (evalE (cxF tab n) ce))) : PI X tg e (LIt (gx X cl fa) W (iterE (cxF tab n) (.seq ce))) := by
  refine pi_mono (pi_or (pi_list he) (pi_or (pi_tup he) (pi_str he))) fun σ H R ⟨α, S, ρ, hr, h1, hw⟩ => ?_
  unfold iterE at hw
  cases hv : evalE (cxF tab n) ce ρ S with
  | stuck => rw [hv] at hw; exact hw.elim
  | exc x S1 =>
    refine .inl ⟨α, S, ρ, hr, h1, ?_⟩
    rw [hv] at hw ⊢
    exact hw
  | ok v S1 =>
    have go : ∀ {P : PP PV}, (∀ α' H', Ext α H α' H' → Rep (gx X cl fa) α' S1 H' → P α' H' v S1) → Wp (gx X cl fa) (evalE (cxF tab n) ce ρ S) α H P (EW (gx X cl fa) W σ) := fun {P} h => by
      rw [hv]
      exact h
    have fin : ∀ {α' H' Jv J}, seqIt v S1 = .ok Jv S1 → Ext α H α' H' → Rep (gx X cl fa) α' S1 H' → JR (gx X cl fa) Jv J α' H' → R J H' := fun {α' H' Jv J} e1 e2 e3 e4 => by
      rw [hv] at hw
      have hw : Wp (gx X cl fa) (seqIt v S1) α H (fun α' H' Jv _ => ∀ J, JR (gx X cl fa) Jv J α' H' → R J H') (EW (gx X cl fa) W σ) := hw
      rw [e1] at hw
      exact hw.okE e2 e3 J e4
    have bad : (∀ Jv, seqIt v S1 ≠ .ok Jv S1) → seqIt v S1 = .stuck → False := fun _ e => by
      rw [hv] at hw
      have hw : Wp (gx X cl fa) (seqIt v S1) α H (fun α' H' Jv _ => ∀ J, JR (gx X cl fa) Jv J α' H' → R J H') (EW (gx X cl fa) W σ) := hw
      rw [e] at hw
      exact hw
    cases v with
    | tup xs =>
      refine .inr (.inl ⟨α, S, ρ, hr, h1, go fun α' H' e r w hv' => ?_⟩)
      obtain ⟨a, vs, rfl, s1, r1⟩ := hv'
      exact ⟨a, rfl, ⟨vs, SqT.of s1⟩, fin rfl e r (jr_tup (X := X) (SqT.of s1) r1)⟩
    | rot xs =>
      refine .inr (.inl ⟨α, S, ρ, hr, h1, go fun α' H' e r w hv' => ?_⟩)
      obtain ⟨a, vs, rfl, s1, r1⟩ := hv'
      exact ⟨a, rfl, ⟨vs, s1⟩, fin rfl e r (jr_tup (X := X) s1 r1)⟩
    | rol xs =>
      refine .inl ⟨α, S, ρ, hr, h1, go fun α' H' e r w hv' => ?_⟩
      obtain ⟨a, vs, rfl, s1, r1⟩ := hv'
      exact ⟨a, rfl, ⟨vs, s1.l⟩, fin rfl e r (jr_rol (X := X) s1 r1)⟩
    | str x =>
      refine .inr (.inr ⟨α, S, ρ, hr, h1, go fun α' H' e r w hv' => ?_⟩)
      cases hv'
      exact ⟨_, rfl, fin rfl e r (jr_str (X := X))⟩
    | ref p =>
      cases hp : S1[p]? with
      | none => exact (bad (fun Jv => by simp [seqIt, hp]) (by simp [seqIt, hp])).elim
      | some o =>
        cases o with
        | lst xs =>
          refine .inl ⟨α, S, ρ, hr, h1, go fun α' H' e r w hv' => ?_⟩
          obtain ⟨a, vs, rfl, ha, e1, r1⟩ := r.list (X := X) hp hv'
          exact ⟨a, rfl, ⟨vs, SqL.of e1⟩, fin (by simp [seqIt, hp]) e r (jr_ref (X := X) ha)⟩
        | _ => exact (bad (fun Jv => by simp [seqIt, hp]) (by simp [seqIt, hp])).elim
    | _ => exact (bad (fun Jv => by simp [seqIt]) rfl).elim
theorem s_rng (C : CxOk T tab cl fa pss n X W) {tg a : Expr} {p pos : Pos} {ce : CE} (hg : Gl X "range") (hst : isStar a = false) (he : PE X a (LE (gx X cl fa) W (evalE (cxF tab n) ce))) :
    PI X tg (.Call (.Name "range" p) [a] [] pos) (LIt (gx X cl fa) W (iterE (cxF tab n) (.rng ce))) := by
  refine pi_mono (pi_range1 hg C.nm.range (pa_cons he pa_nil (star_cons hst)) (by rw [star_cons hst]; rfl)) fun σ H R ⟨α, S, ρ, hr, h1, hw⟩ => ?_
  unfold iterE at hw
  refine ⟨α, S, ρ, hr, h1, hw.bind.imp1 fun α1 H1 x S1 e1 r1 q1 w1 v1 => ?_⟩
  cases x <;> first
    | exact q1.elim
    | skip
  cases v1
  simp only at q1
  split at q1
  · rename_i hl
    exact ⟨_, rfl, hl.1, hl.2, q1.ok r1 _ (jr_rng (X := X))⟩
  · exact q1.elim
theorem s_rng2 (C : CxOk T tab cl fa pss n X W) {tg a b : Expr} {p pos : Pos} {ca cb : CE} (hg : Gl X "range") (hst : isStar a = false) (hst2 : isStar b = false) (ha : PE X a (LE (gx X cl fa) W (evalE (cxF tab n) ca))) (hb : PE X b (LE (gx X cl fa) W (evalE (cxF tab n) cb))) :
    PI X tg (.Call (.Name "range" p) [a, b] [] pos) (LIt (gx X cl fa) W (iterE (cxF tab n) (.rng2 ca cb))) := by
  refine pi_mono (pi_range2 hg C.nm.range (pa_cons ha (pa_cons hb pa_nil (star_cons hst2)) (star_cons hst)) (by rw [star_cons hst, star_cons hst2]; rfl) (by rw [star_cons hst2]; rfl)) fun σ H R ⟨α, S, ρ, hr, h1, hw⟩ => ?_
  unfold iterE at hw
  refine ⟨α, S, ρ, hr, h1, hw.bind.imp1 fun α1 H1 x S1 e1 r1 q1 w1 v1 => ⟨α1, S1, ρ, r1, h1.ext e1, q1.bind.imp1 fun α2 H2 y S2 e2 r2 q2 w2 v2 => ?_⟩⟩
  cases x <;> first
    | exact q2.elim
    | skip
  cases y <;> first
    | exact q2.elim
    | skip
  cases v1; cases v2
  simp only at q2
  split at q2
  · rename_i hl
    exact ⟨_, _, rfl, ⟨hl.1, hl.2.1, hl.2.2.1, hl.2.2.2⟩, q2.ok r2 _ (jr_rng (X := X))⟩
  · exact q2.elim

theorem s_zipN (C : CxOk T tab cl fa pss n X W) {nm : Str} {tpos p pos : Pos} {a b : Expr} {ca cb : CE} (hg : Gl X "zip") (hst : isStar a = false) (hst2 : isStar b = false) (ha : PE X a (LE (gx X cl fa) W (evalE (cxF tab n) ca))) (hb : PE X b (LE (gx X cl fa) W (evalE (cxF tab n) cb))) :
    PI X (.Name nm tpos) (.Call (.Name "zip" p) [a, b] [] pos) (LIt (gx X cl fa) W (iterE (cxF tab n) (.zip ca cb))) := by
  refine pi_mono (pi_zipN hg C.nm.zip (pa_cons ha (pa_cons hb pa_nil (star_cons hst2)) (star_cons hst)) (star_cons hst) (by rw [star_cons hst2]; rfl)) fun σ H R ⟨α, S, ρ, hr, h1, hw⟩ => ?_
  unfold iterE at hw
  refine ⟨α, S, ρ, hr, h1, hw.bind.imp1 fun α1 H1 x S1 e1 r1 q1 w1 v1 => ⟨α1, S1, ρ, r1, h1.ext e1, q1.bind.imp1 fun α2 H2 y S2 e2 r2 q2 w2 v2 => ?_⟩⟩
  unfold zipV at q2
  split at q2
  · rename_i xs ys hx hy
    split at q2
    · rename_i hl
      obtain ⟨a1, vs, rfl, k1, k2⟩ := tupOf_ok (X := X) hx (v1.ext e2)
      obtain ⟨a2, ws, rfl, k3, k4⟩ := tupOf_ok (X := X) hy v2
      exact ⟨a1, a2, vs, ws, rfl, k1, k3, by rw [← k2.length, ← k4.length]; exact hl, q2.ok r2 _ (jr_zip k1 k3 k2 k4 hl)⟩
    · exact q2.elim
  · exact q2.elim
theorem jr_rvd {cl fa : Nat → Addr} {α : List Addr} {H : Hp} {n : Nat} : JR (gx X cl fa) (.seq ((List.range n).reverse.map fun (k : Nat) => PV.int (k : Int))) (Itc ((0 : Int) + ((((n : Int) - 0).toNat : Nat) : Int) - 1) (-1) ((n : Int) - 0).toNat) α H := by
  intro α' H' S i e hr
  have en : ((n : Int) - 0).toNat = n := by omega
  rw [en]
  refine ⟨fun z hz => ?_, fun hx => ?_⟩
  · simp only [ItV.next, Option.some.injEq, List.getElem?_map, Option.map_eq_some_iff] at hz
    obtain ⟨k, hk, rfl⟩ := hz
    have hl := (List.getElem?_eq_some_iff.mp hk).1
    simp only [List.length_reverse, List.length_range] at hl
    rw [List.getElem?_reverse (by simpa using hl), List.length_range, List.getElem?_range (by omega)] at hk
    cases hk
    refine ⟨hl, fun u H2 yl => ?_⟩
    obtain ⟨rfl, rfl⟩ := yl
    refine ⟨Ext.refl _ _, hr, ?_⟩
    show V.int _ = V.int _
    congr 1
    omega
  · simp only [ItV.next, Option.some.injEq] at hx
    have := List.getElem?_eq_none_iff.mp hx
    simp at this
    exact this
theorem s_rvd (C : CxOk T tab cl fa pss n X W) {tg a : Expr} {p p2 q pos : Pos} {ca : CE} (hg : Gl X "reversed") (hg2 : Gl X "range") (hst : isStar a = false) (ha : PE X a (LE (gx X cl fa) W (evalE (cxF tab n) ca))) :
    PI X tg (.Call (.Name "reversed" p) [.Call (.Name "range" p2) [a] [] q] [] pos) (LIt (gx X cl fa) W (iterE (cxF tab n) (.revd ca))) := by
  refine pi_mono (pi_revR hg C.nm.rvd (prg_1 hg2 C.nm.range ha (by rw [star_cons hst])) rfl) fun σ H R ⟨α, S, ρ, hr, h1, hw⟩ => ?_
  unfold iterE at hw
  refine ⟨α, S, ρ, hr, h1, hw.bind.imp1 fun α1 H1 x S1 e1 r1 q1 w1 v1 => ?_⟩
  cases x <;> first
    | exact q1.elim
    | skip
  cases v1
  simp only at q1
  split at q1
  · rename_i j hl
    refine ⟨_, rfl, by omega, by omega, hl.1, hl.2.1, ?_⟩
    have := q1.ok r1 _ (jr_rvd (X := X))
    by_cases h0 : 0 ≤ j
    · have e : ((j.toNat : Nat) : Int) = j := by omega
      rw [e] at this
      exact this
    · have e : (j - 0).toNat = 0 := by omega
      have e2 : j.toNat = 0 := by omega
      rw [e2] at this
      rw [e]
      exact this
  · exact q1.elim
theorem s_enum (C : CxOk T tab cl fa pss n X W) {elts : List Expr} {kk : Nat} {tpos p pos : Pos} {a : Expr} {ce : CE} (hm : X.mg "enumerate" = none) (hg : Gl X "enumerate") (hst : isStar a = false) (he : PE X a (LE (gx X cl fa) W (evalE (cxF tab n) ce))) :
    PI X (.Tuple elts kk tpos) (.Call (.Name "enumerate" p) [a] [] pos) (LIt (gx X cl fa) W (iterE (cxF tab n) (.enum ce))) := by
  have ha : PA X [a] (LA (gx X cl fa) W fun ρ S => (evalE (cxF tab n) ce ρ S).bind fun x S => .ok [x] S) := pa_mono (pa_cons he pa_nil (star_cons hst)) fun σ H Q ⟨α, S, ρ, hr, h1, hw⟩ =>
    ⟨α, S, ρ, hr, h1, hw.bind.imp1 fun α1 H1 x S1 e1 r1 q1 w1 v1 => q1.ok r1 [w1] ⟨w1, [], rfl, v1, rfl⟩⟩
  have hs1 : starEach [a] X.env = [(false, eval a X.env)] := by rw [star_cons hst]; rfl
  refine pi_mono (pi_or (pi_enum hg hm ha hs1) (pi_enumT hg hm ha hs1)) fun σ H R ⟨α, S, ρ, hr, h1, hw⟩ => ?_
  unfold iterE at hw
  have hw : Wp (gx X cl fa) ((evalE (cxF tab n) ce ρ S).bind _) α H (fun α' H' Jv _ => ∀ J, JR (gx X cl fa) Jv J α' H' → R J H') (EW (gx X cl fa) W σ) := hw
  cases hv : evalE (cxF tab n) ce ρ S with
  | stuck => rw [hv] at hw; exact hw.elim
  | exc x S1 =>
    refine .inl ⟨α, S, ρ, hr, h1, ?_⟩
    rw [hv] at hw
    show Wp (gx X cl fa) ((evalE (cxF tab n) ce ρ S).bind _) α H _ (EW (gx X cl fa) W σ)
    rw [hv]
    exact hw
  | ok v S1 =>
    rw [hv] at hw
    have go : ∀ {P : PP (List PV)}, (∀ α' H', Ext α H α' H' → Rep (gx X cl fa) α' S1 H' → P α' H' [v] S1) → Wp (gx X cl fa) ((evalE (cxF tab n) ce ρ S).bind fun x S => .ok [x] S) α H P (EW (gx X cl fa) W σ) := fun {P} h => by
      rw [hv]
      exact h
    cases v with
    | tup xs =>
      refine .inr ⟨α, S, ρ, hr, h1, go fun α' H' e r ws hv' => ?_⟩
      obtain ⟨w, rfl, a, vs, rfl, s1, r1⟩ := hv'.one
      exact ⟨a, vs, rfl, SqT.of s1, Wp.okE (show Wp (gx X cl fa) (.ok (.enT xs) S1) α H (fun α' H' Jv _ => ∀ J, JR (gx X cl fa) Jv J α' H' → R J H') (EW (gx X cl fa) W σ) from hw) e r _ (jr_enT (X := X) (SqT.of s1) r1)⟩
    | rot xs =>
      refine .inr ⟨α, S, ρ, hr, h1, go fun α' H' e r ws hv' => ?_⟩
      obtain ⟨w, rfl, a, vs, rfl, s1, r1⟩ := hv'.one
      exact ⟨a, vs, rfl, s1, Wp.okE (show Wp (gx X cl fa) (.ok (.enT xs) S1) α H (fun α' H' Jv _ => ∀ J, JR (gx X cl fa) Jv J α' H' → R J H') (EW (gx X cl fa) W σ) from hw) e r _ (jr_enT (X := X) s1 r1)⟩
    | ref p =>
      have hw : Wp (gx X cl fa) (match S1[p]? with
        | some (.lst _) => .ok (.enL p) S1
        | _ => .stuck) α H (fun α' H' Jv _ => ∀ J, JR (gx X cl fa) Jv J α' H' → R J H') (EW (gx X cl fa) W σ) := hw
      split at hw
      · rename_i xs hp
        refine .inl ⟨α, S, ρ, hr, h1, go fun α' H' e r ws hv' => ?_⟩
        obtain ⟨w, rfl, rw'⟩ := hv'.one
        obtain ⟨a, vs, rfl, ha2, e1, r1⟩ := r.list (X := X) hp rw'
        exact ⟨a, vs, rfl, SqL.of e1, hw.okE e r _ (jr_enL (X := X) ha2)⟩
      · exact hw.elim
    | _ => exact hw.elim

/-! ### comprehensions -/
theorem wipe_get {σ : L2.St} {j : Nat} : ∀ {vs : List Nat}, (L2.wipe σ vs)[j]? = if j ∈ vs then (if j < σ.length then some none else none) else σ[j]?
  | [] => by simp [L2.wipe]
  | v :: vs => by
    unfold L2.wipe
    rw [List.getElem?_set]
    have ih := @wipe_get σ j vs
    by_cases h : v = j
    · subst h
      simp [L2.wipe_length]
    · rw [if_neg h, ih]
      simp [Ne.symm h]
theorem wipe_but {σ σ' : L2.St} {sl vs : List Nat} (h : ButSl sl (L2.wipe σ vs) σ') (hs : ∀ i ∈ sl, i ∈ vs) : L2.wipe σ' vs = L2.wipe σ vs := by
  refine List.ext_getElem? fun j => ?_
  rw [wipe_get, wipe_get]
  have hl : σ'.length = σ.length := by rw [h.1, L2.wipe_length]
  by_cases hj : j ∈ vs
  · simp [hj, hl]
  · rw [if_neg hj, if_neg hj, h.2 j fun z => hj (hs j z), wipe_get, if_neg hj]
/-- for k in d, the dict locked -/
theorem s_kys (sc : ScOk c X) {tg : Expr} {x : Str} {p : Pos} {k : Nat} (h : compVar c x = some k) : PI X tg (.Name x p) (LIt (gx X cl fa) W (iterE (cxF tab n) (.kys k))) := by
  refine pi_mono (pi_keys (s_var (W := W) (cl := cl) (fa := fa) sc h)) fun σ H R ⟨α, S, ρ, hr, h1, hw⟩ => ?_
  unfold iterE at hw
  refine ⟨α, S, ρ, hr, h1, ?_⟩
  show Wp (gx X cl fa) (getV ρ k S) α H _ _
  cases hv : getV ρ k S with
  | stuck => rw [hv] at hw; exact hw.elim
  | exc x S1 => rw [hv] at hw; exact hw
  | ok v S1 =>
    rw [hv] at hw
    have hw : Wp (gx X cl fa) (match v with
      | .ref p => (match S1[p]? with
        | some (.fdc _) => .ok (.kys p) S1
        | _ => .stuck)
      | _ => .stuck) α H (fun α' H' Jv _ => ∀ J, JR (gx X cl fa) Jv J α' H' → R J H') (EW (gx X cl fa) W σ) := hw
    intro α' H' e r w hw'
    split at hw
    · rename_i p
      split at hw
      · rename_i kvs hp
        obtain ⟨a, ha, rfl⟩ := hw'
        obtain ⟨o, ds, h2, h3⟩ := r.at hp ha
        exact ⟨a, o, rfl, .inl ⟨ds, h2, hw.okE e r _ (jr_kys ha h2)⟩⟩
      · exact hw.elim
    · exact hw.elim
/-- a private place changes -/
theorem Ext.priv {α α' : List Addr} {H H' : Hp} {D : Addr} {o : HO} (e : Ext α H α' H') (hD : H D = none) : Ext α H α' (upd H' D o) := by
  have ne : ∀ b u, H b = some u → b ≠ D := fun b u h z => by subst z; rw [hD] at h; cases h
  exact ⟨e.pre, fun a u h ha => by rw [upd_ne (ne a u h)]; exact e.keep a u h ha, fun a u h => by rw [upd_ne (ne a u h)]; exact e.there a u h,
    fun b xs h => by rw [upd_ne (ne b _ h)]; exact e.tups b xs h, fun b u v h => by rw [upd_ne (ne b _ h)]; exact e.frzs b u v h⟩
theorem Kp.priv {α : List Addr} {H : Hp} {D : Addr} {xs : List V} {o : HO} (h : H D = some (.lst xs)) : Kp α H α (upd H D o) := by
  refine ⟨fun _ _ h => h, fun b ys q => ?_, fun b u v q _ => ?_⟩
  · rw [upd_ne]; exact q
    rintro rfl
    rw [h] at q; cases q
  · rw [upd_ne]; exact q
    rintro rfl
    rw [h] at q; cases q
theorem Wp.noxE {g : G} {β : Type} {r : R β} {α : List Addr} {H : Hp} {P : PP β} {E : PP Exn} (h : Wp g r.nox α H P E) (E' : PP Exn) : Wp g r α H P E' := by
  cases r with
  | ok b S => exact h
  | exc x S => exact h.elim
  | stuck => exact h.elim
theorem Wp.noxN {g : G} {β : Type} {r : R β} {α : List Addr} {H : Hp} {P : PP β} {E : PP Exn} (h : Wp g r.nox α H P E) (E' : PP Exn) : Wp g r.nox α H P E' := by
  cases r with
  | ok b S => exact h
  | exc x S => exact h.elim
  | stuck => exact h.elim
/-- the body of a comprehension's turn -/
abbrev lcBody (cx : Cxi) (vs : List Nat) (t : CT) (cond elt : CE) (ρ : Env) : PV → Store → R (Option PV) := fun x S => (assignE cx t x (wipe ρ vs) S).bind fun ρ' S =>
      (evalE cx cond ρ' S).bind fun c S => (ofO (truthy S c) S).bind fun k S => if k then (evalE cx elt ρ' S).bind fun y S => .ok (some y) S else .ok none S
theorem lc_read {own : List (Str × Nat)} {ci : CI} {ct : CT} {cond ce : CE} {tt : TT} (htt : ∀ σ H Q, LTt (gx X cl fa) (fun _ _ _ _ => False) (testE (cxF tab n) cond) σ H Q → tt σ H Q) (hsl : ∀ i ∈ ct.slots, i ∈ own.map (·.2)) {σ : L2.St} {H : Hp} {Q : VK}
    (hh : LE (gx X cl fa) W (evalE (cxF tab n) (.lc (own.map (·.2)) ct ci cond ce)) σ H Q) :
    tLc (LIt (gx X cl fa) W (iterE (cxF tab n) ci)) (LG (gx X cl fa) ct.slots (assignE (cxF tab n) ct)) tt (LE (gx X cl fa) (fun _ _ _ _ => False) (evalE (cxF tab n) ce)) (own.map (·.2)) σ H Q := by
  obtain ⟨α, S, ρ, hr, he, hw⟩ := hh
  generalize hvs : own.map (·.2) = vs at *
  unfold evalE at hw
  refine ⟨α, S, ρ, hr, he, hw.bind.imp1 fun α1 H1 Jv S1 e1 r1 q1 J jr D hD => ?_⟩
  have q1 : Wp (gx X cl fa) (lcLoop (lcBody (cxF tab n) vs ct cond ce ρ) Jv tab.F 0 [] S1) α1 H1 (PV1 (gx X cl fa) Q) (EW (gx X cl fa) W σ) := q1
  refine ⟨fun i m H' => ∃ α' S' acc vs', Ext α1 H1 α' H' ∧ Rep (gx X cl fa) α' S' H' ∧ D ∉ α' ∧ H' D = some (.lst vs') ∧ RVs X.K α' H' acc vs' ∧
    Wp (gx X cl fa) (lcLoop (lcBody (cxF tab n) vs ct cond ce ρ) Jv m i acc S') α1 H1 (PV1 (gx X cl fa) Q) (EW (gx X cl fa) W σ),
    ⟨tab.F, α1, S1, [], [], Ext.new hD _, r1.new hD _, r1.out hD, upd_same, rfl, q1⟩, ?_⟩
  rintro i m H' ⟨α', S', acc, vs', e, r, hDα, hDl, ra, q⟩
  cases m with
  | zero => exact q.elim
  | succ F =>
    unfold lcLoop at q
    split at q
    · exact q.elim
    · rename_i hx
      refine .inl ⟨(jr α' H' S' i e r).2 hx, ?_⟩
      obtain ⟨β, hβ, hn⟩ := e.pre
      have ex : Ext α1 H1 (α' ++ [D]) H' := ⟨⟨β ++ [D], by rw [hβ, List.append_assoc], fun b hb => by
        rcases List.mem_append.mp hb with z | z
        · exact hn b z
        · simp at z; rw [z]; exact hD⟩, e.keep, e.there, e.tups, e.frzs⟩
      have kp : Kp α' H' (α' ++ [D]) H' := ⟨fun k a h => by rw [List.getElem?_append_left (List.getElem?_eq_some_iff.mp h).1]; exact h, fun _ _ h => h, fun _ _ _ h _ => h⟩
      refine q.okE ex ?_ _ ⟨D, by rw [← r.len]; simp, rfl⟩
      refine ⟨by simp [r.len], ?_, fun k o hk => ?_⟩
      · rw [List.nodup_append]
        refine ⟨r.nd, by simp, fun b hb d hd z => ?_⟩
        simp at hd
        subst hd z
        exact hDα hb
      · by_cases hlt : k < S'.length
        · rw [List.getElem?_append_left hlt] at hk
          obtain ⟨b, hb, z⟩ := r.ok k o hk
          exact ⟨b, kp.at_ _ _ hb, z.kp kp rfl⟩
        · have hnl : k < (S' ++ [MO.lst acc]).length := (List.getElem?_eq_some_iff.mp hk).1
          have hn2 : k = S'.length := by simp at hnl; omega
          subst hn2
          simp at hk
          subst hk
          exact ⟨D, by rw [← r.len]; simp, vs', hDl, ra.kp kp⟩
    · rename_i x hx
      obtain ⟨go, yl⟩ := (jr α' H' S' i e r).1 x hx
      refine .inr ⟨go, fun H2 => ∃ α2 S2 acc2 vs2, Ext α1 H1 α2 H2 ∧ Rep (gx X cl fa) α2 S2 H2 ∧ D ∉ α2 ∧ H2 D = some (.lst vs2) ∧ RVs X.K α2 H2 acc2 vs2 ∧
        Wp (gx X cl fa) (lcLoop (lcBody (cxF tab n) vs ct cond ce ρ) Jv F (i + 1) acc2 S2) α1 H1 (PV1 (gx X cl fa) Q) (EW (gx X cl fa) W σ), fun H2 h2 => ⟨F, Nat.lt_succ_self F, h2⟩, fun w H2 y => ?_⟩
      obtain ⟨ey, ry, vy⟩ := yl w H2 y
      have qb := (Wp.bind0 q).ext (e.trans ey)
      rw [show lcBody (cxF tab n) vs ct cond ce ρ x S' = ((assignE (cxF tab n) ct x (L3.wipe ρ vs) S').bind fun ρ' S => (testE (cxF tab n) cond ρ' S).bind fun k S => if k then (evalE (cxF tab n) ce ρ' S).bind fun y S => .ok (some y) S else .ok none S) from by
        show ((assignE (cxF tab n) ct x (L3.wipe ρ vs) S').bind _) = _
        congr 1
        funext ρ' S
        unfold testE
        rw [R.bind_assoc], nox_bind] at qb
      have heW : RE (gx X cl fa) α' H2 (L3.wipe ρ vs) (L2.wipe σ vs) := (((he.ext e1).ext (e.trans ey)).wipe vs)
      refine ⟨α', S', L3.wipe ρ vs, x, ry, heW, vy, (qb.bind.noxN _).imp1 fun α3 H3 ρ3 S3 e3 r3 q3 σ3 he3 b3 => ⟨wipe_but b3 hsl, htt _ _ _ ⟨α3, S3, ρ3, r3, he3, ?_⟩⟩⟩
      rw [nox_bind] at q3
      refine (q3.bind.noxE _).imp1 fun α4 H4 k S4 e4 r4 q4 => ?_
      have eD4 : Ext α' H2 α4 H4 := e3.trans e4
      have hD2 : H2 D = some (.lst vs') := ey.keep D _ hDl hDα
      have nD : ∀ {α5 H5}, Ext α' H2 α5 H5 → D ∉ α5 := fun {α5 H5} e5 hm => by
        obtain ⟨β, hβ, hn⟩ := e5.pre
        rw [hβ] at hm
        rcases List.mem_append.mp hm with z | z
        · exact hDα z
        · rw [hn D z] at hD2; cases hD2
      cases k with
      | false =>
        exact ⟨α4, S4, acc, vs', (e.trans ey).trans eD4, r4, nD eD4, eD4.keep D _ hD2 hDα, (ra.ext ey).ext eD4, (show Wp (gx X cl fa) (.ok none S4) α4 H4 _ _ from q4).ok r4⟩
      | true =>
        have q4 : Wp (gx X cl fa) ((evalE (cxF tab n) ce ρ3 S4).bind fun y S => .ok (some y) S).nox α4 H4 _ _ := q4
        rw [nox_bind] at q4
        refine ⟨α4, S4, ρ3, r4, he3.ext e4, (q4.bind.noxE _).imp1 fun α5 H5 y5 S5 e5 r5 q5 w5 v5 => ?_⟩
        have q5 := (show Wp (gx X cl fa) (.ok (some y5) S5) α5 H5 _ _ from q5).ok r5
        have eD5 : Ext α' H2 α5 H5 := eD4.trans e5
        have hD5 := eD5.keep D _ hD2 hDα
        simp only at q5
        split at q5
        · rename_i hl
          have ra5 := (ra.ext ey).ext eD5
          have kp := Kp.priv (α := α5) (o := .lst (vs' ++ [w5])) hD5
          refine ⟨vs', hD5, by rw [← ra.length, ← nsz_eq]; exact hl, α5, S5, acc ++ [y5], vs' ++ [w5], ((e.trans ey).trans eD5).priv hD, r5.kp kp fun b hb => upd_ne fun z => ?_, nD eD5, upd_same, (ra5.kp kp).append ⟨w5, [], rfl, v5.kp kp, rfl⟩, q5⟩
          subst z
          exact nD eD5 hb
        · exact q5.elim
end
end L3
set_option maxRecDepth 100000
/-! L3SndM: methods, attributes, makings, dicts, len(set(..)). -/
namespace L3
open PySem PySem.Spec PyProof.Rows L2
section
variable {X : Cx} {T : GT} {tab : Tab} {cl fa : Nat → Addr} {pss : Nat → List Str} {n : Nat} {W : WX} {c : Sc}
theorem base_of {o : Expr} {m : Str} {env : PySem.Env} (h : noSup o = true) : attributeBase o m env (eval o env) = eval o env := by
  unfold attributeBase
  split
  · cases h
  · rfl
theorem few_of {F : Expr → Option CE} {es : List Expr} {ces : CEs} (env : PySem.Env) (pos : Pos) (h : listM F es = some ces) (hl : es.length < 20) :
    ((backTo pos (starEach es env)).all (fun x => !x.1) && (backToKw pos (keywordEach [] env)).all (fun x => x.1.isSome) && decide (es.length + ([] : List Keyword).length + (if ([] : List Keyword).isEmpty then 0 else 1) < 30)) = true := by
  have h1 := listM_star env pos h
  have h2 : (backTo pos (starEach es env)).all (fun x => !x.1) = true := by
    rw [List.all_eq_not_any_not]
    simpa using h1
  rw [h2]
  have : decide (es.length + ([] : List Keyword).length + (if ([] : List Keyword).isEmpty then 0 else 1) < 30) = true := by
    simp
    omega
  rw [this]
  rfl
theorem tree_of {F : Expr → Option CE} {o : Expr} {m : Str} {apos pos : Pos} {es : List Expr} {ces : CEs} (env : PySem.Env) (hb : noSup o = true) (h : listM F es = some ces) (hl : es.length < 20) (hline : (apos.endLine == pos.line) = true) :
    eval (.Call (.Attribute o m apos) es [] pos) env = (do
      let ov ← eval o env
      standAt apos.atName
      let (f, first) ← holding [ov] (getMethod ov m (do return (← importBound o env).getD true))
      callWith pos f first (backTo pos (starEach es env)) (backToKw pos (keywordEach [] env))) := by
  have hform : methodCallForm (es.length + ([] : List Keyword).length) (backTo pos (starEach es env)) (backToKw pos (keywordEach [] env)) = true := few_of env pos h hl
  have hpos : methodCallPos true o env apos pos = pure pos := by unfold methodCallPos; simp [hline]
  rw [arm_eval_Call, base_of hb]
  simp only [methodCall, hform, calleeOf, if_true, hpos, pure_bind]
def tMethS (C : Addr) (m : Str) (sp : Sp) (E : L2.St → XK) (ta : TE) (t : TA) : TE := fun σ H Q => ta σ H fun x H1 => ∃ a dx fs, x = .ref a ∧ H1 a = some (.ins C dx fs) ∧ fs.lookup m = none ∧ t σ H1 fun vs H2 => sp (x :: vs) H2 Q (E σ)
theorem pe_ownS0 {CX : CXT} {k : Nat} {f C : Addr} {fd : FuncData} {ps : List Str} {sp : Sp} {E : L2.St → XK} {ta : TE} {o : Expr} {m : Str} {apos pos : Pos} (he : PE X o ta) (c : Cls X.K C) (hm : Meth X.K C m f) (F : FnOk X.prog X.w X.K X.mg X.base CX k f fd ps sp) (hr : Room k X.A) (hb : Binds X.K fd ps [])
    (hx : ∀ σ, PassesAt CX X σ (E σ)) (hns : noSup o = true) (hline : (apos.endLine == pos.line) = true) :
    PE X (.Call (.Attribute o m apos) [] [] pos) (tMethS C m sp E ta tNil) := by
  refine ⟨fun pins s σ H Q I h => ?_⟩
  refine PySem.W.methodCall_KW (pl := do return (← importBound o X.env).getD true) (thn (he.run pins s σ H _ I h) fun u s1 ⟨x, H1, I1, rx, a, dx, fs, ex, ea, l, q⟩ => ?_) (tree_of (F := fun _ => none) X.env hns rfl (by decide) hline)
  subst ex
  obtain rfl : u = Value.ref a := rx
  refine getmeth_ok I1 ea c hm l ?_
  exact PySem.W.callWith_K0 (first := [.ref a]) I1.kIn hm.kp (run_fnS (us := [.ref a]) (vs := [.ref a]) F hr hb (hx σ) I1 (.cons rfl .nil) q)
theorem pe_ownS {CX : CXT} {k : Nat} {f C : Addr} {fd : FuncData} {ps : List Str} {sp : Sp} {E : L2.St → XK} {ta : TE} {t : TA} {o : Expr} {m : Str} {apos pos : Pos} {e : Expr} {es : List Expr} {ces : CEs} {G : Expr → Option CE} (he : PE X o ta) (c : Cls X.K C) (hm : Meth X.K C m f) (F : FnOk X.prog X.w X.K X.mg X.base CX k f fd ps sp) (hr : Room k X.A) (hb : Binds X.K fd ps [])
    (hx : ∀ σ, PassesAt CX X σ (E σ)) (ha : PA X (e :: es) t) (hns : noSup o = true) (hl : listM G (e :: es) = some ces) (hn : (e :: es).length < 20) (hline : (apos.endLine == pos.line) = true) :
    PE X (.Call (.Attribute o m apos) (e :: es) [] pos) (tMethS C m sp E ta t) := by
  refine ⟨fun pins s σ H Q I h => ?_⟩
  refine PySem.W.methodCall_KW (pl := do return (← importBound o X.env).getD true) (thn (he.run pins s σ H _ I h) fun u s1 ⟨x, H1, I1, rx, a, dx, fs, ex, ea, l, q⟩ => ?_) (tree_of X.env hns hl hn hline)
  subst ex
  obtain rfl : u = Value.ref a := rx
  refine getmeth_ok I1 ea c hm l ?_
  obtain ⟨c1, c2, h1, h2, rfl, hst⟩ := listM_cons hl
  exact PySem.W.callWith_K (first := [.ref a]) (h₀ := X.base) I1.ok.mod.kin hm.kp (thn (ha.run pos pins s1 σ H1 _ I1 q) fun us s2 ⟨vs, H2, I2, r, q2⟩ => ⟨I2.kIn, run_fnS (us := .ref a :: us) (vs := .ref a :: vs) F hr hb (hx σ) I2 (.cons rfl r) q2⟩) (star_cons hst) (listM_star X.env pos h2)
/-! ### fields -/
theorem rf_look {K : PySem.W.Frag} {α : List Addr} {H : Hp} {f : Sy} : ∀ {fs : List (Sy × PV)} {gs : List (Str × V)}, RF K α H fs gs → OR K α H (lookF f fs) (gs.lookup (toStr f))
  | [], _, h => by
    cases h
    exact trivial
  | (g, x) :: fs, _, h => by
    obtain ⟨w, ws, rfl, h1, h2⟩ := h
    unfold lookF
    by_cases e : f = g
    · subst e
      rw [if_pos rfl, List.lookup_cons, beq_self_eq_true]
      exact h1
    · rw [if_neg e, List.lookup_cons, beq_false_of_ne (fun z => e (str_inj.mp z))]
      exact rf_look h2
theorem rf_none {K : PySem.W.Frag} {α : List Addr} {H : Hp} {f : Sy} {fs : List (Sy × PV)} {gs : List (Str × V)} (h : RF K α H fs gs) (e : lookF f fs = none) : gs.lookup (toStr f) = none := by
  have := rf_look (f := f) h
  rw [e] at this
  cases q : gs.lookup (toStr f) with
  | none => rfl
  | some v => rw [q] at this; exact this.elim
/-- the dict's methods -/
abbrev mthF (T : Tab) (n : Nat) (f : Env → Store → R PV) (m : Sy) (h : Env → Store → R (List PV)) : Env → Store → R PV := fun ρ S => (f ρ S).bind fun x S => (ofO (mtOf T x m S) S).bind fun tg S => (h ρ S).bind fun xs S => runM (cxF T n) xs S tg
theorem pe_or3 {e : Expr} {t : Nat → TE} (h : ∀ i, PE X e (t i)) : PE X e (fun σ H Q => ∃ i, t i σ H Q) := ⟨fun pins s σ H Q I ⟨i, q⟩ => (h i).run pins s σ H Q I q⟩
theorem lmOf_ok {m : Str} {lm : LM} (h : lmOf m.cps.toList = some lm) : m = (lmN lm).1 := by
  have key : ∀ (z : Sy) (y : Str), m.cps.toList = z → y.cps.toList = z → m = y := fun z y h1 h2 => by
    cases m
    cases y
    simp only at h1 h2
    congr 1
    exact Array.toList_inj.mp (h1.trans h2.symm)
  unfold lmOf at h
  split at h
  · rename_i e
    cases h
    exact key _ _ e rfl
  · split at h
    · rename_i e
      cases h
      exact key _ _ e rfl
    · split at h
      · rename_i e
        cases h
        exact key _ _ e rfl
      · split at h
        · rename_i e
          cases h
          exact key _ _ e rfl
        · cases h
theorem lm_slot (m : LM) : Slot "list" (lmN m).1 (lmN m).2 := by
  cases m
  · exact PySem.F.slot_list_append
  · exact PySem.F.slot_list_extend
  · exact PySem.F.slot_list_pop
  · exact PySem.F.slot_list_index
theorem lm_type (m : LM) : typeOf (.builtin (lmN m).2) = pure (.type "method_descriptor") := by
  cases m <;> (show builtinType _ = _; rw [builtinType_eq_fast]; kernel_rfl)
theorem smOf_ok {m : Str} {sm : SM} (h : smOf m.cps.toList = some sm) : m = (smN sm).1 := by
  have key : ∀ (z : Sy) (y : Str), m.cps.toList = z → y.cps.toList = z → m = y := fun z y h1 h2 => by
    cases m
    cases y
    simp only at h1 h2
    congr 1
    exact Array.toList_inj.mp (h1.trans h2.symm)
  unfold smOf at h
  split at h
  · rename_i e
    cases h
    exact key _ _ e rfl
  · split at h
    · rename_i e
      cases h
      exact key _ _ e rfl
    · split at h
      · rename_i e
        cases h
        exact key _ _ e rfl
      · cases h
theorem sm_slot (m : SM) : Slot "str" (smN m).1 (smN m).2 := by
  cases m
  · exact PySem.F.slot_str_join
  · exact PySem.F.slot_str_startswith
  · exact PySem.F.slot_str_lower
theorem sm_type (m : SM) : typeOf (.builtin (smN m).2) = pure (.type "method_descriptor") := by
  cases m <;> (show builtinType _ = _; rw [builtinType_eq_fast]; kernel_rfl)
theorem toStr_cps (m : Str) : toStr m.cps.toList = m := by cases m; rfl
/-- the ways of a method's call -/
def tMth (X : Cx) (tab : Tab) (cl fa : Nat → Addr) (n : Nat) (W : WX) (m : Str) (ta : TE) (t : TA) : TE := fun σ H Q =>
  (∃ lm, lmOf m.cps.toList = some lm ∧ tBM X.K "list" (LMr (gx X cl fa) lm) ta t σ H Q) ∨ (∃ sm, smOf m.cps.toList = some sm ∧ tBM X.K "str" (SMr (gx X cl fa) sm) ta t σ H Q) ∨
    ∃ c f fn, methOf tab c m.cps.toList = some f ∧ tab.fns[f]? = some fn ∧ tMethS (cl c) m (spOf (gx X cl fa) tab n f fn.np) (WE W) ta t σ H Q
theorem pe_mthA (C : CxOk T tab cl fa pss n X W) {o : Expr} {m : Str} {apos pos : Pos} {e : Expr} {es : List Expr} {ces : CEs} {G : Expr → Option CE} {ta : TE} {t : TA} (ho : PE X o ta) (ha : PA X (e :: es) t) (hns : noSup o = true) (hl : listM G (e :: es) = some ces) (hn : (e :: es).length < 20) (hline : (apos.endLine == pos.line) = true) :
    PE X (.Call (.Attribute o m apos) (e :: es) [] pos) (tMth X tab cl fa n W m ta t) := by
  refine ⟨fun pins s σ H Q I q => ?_⟩
  rcases q with ⟨lm, h1, q⟩ | ⟨sm, h1, q⟩ | ⟨c, f, fn, h1, h2, q⟩
  · have em := lmOf_ok h1
    subst em
    obtain ⟨c1, c2, g1, g2, rfl, hst⟩ := listM_cons hl
    exact (pe_bm PySem.F.plainAttrs_list (lm_slot lm) (lm_type lm) (mt_lm (cl := cl) (fa := fa) lm) ho ha (base_of hns) (few_of X.env pos hl hn) hline (star_cons hst) (listM_star X.env pos g2)).run pins s σ H Q I q
  · have em := smOf_ok h1
    subst em
    obtain ⟨c1, c2, g1, g2, rfl, hst⟩ := listM_cons hl
    exact (pe_bm PySem.F.plainAttrs_str (sm_slot sm) (sm_type sm) (mt_sm (cl := cl) (fa := fa) sm) ho ha (base_of hns) (few_of X.env pos hl hn) hline (star_cons hst) (listM_star X.env pos g2)).run pins s σ H Q I q
  · obtain ⟨k1, k2, _⟩ := C.nm.meth c _ f h1
    rw [toStr_cps] at k2
    obtain ⟨p1, p2, fd, F, B⟩ := C.fns f fn h2
    exact (pe_ownS (E := WE W) ho k1 k2 F C.room B (fun σ => passAt C.tk σ) ha hns hl hn hline).run pins s σ H Q I q
def tMth0 (X : Cx) (tab : Tab) (cl fa : Nat → Addr) (n : Nat) (W : WX) (m : Str) (ta : TE) : TE := fun σ H Q =>
  (∃ lm, lmOf m.cps.toList = some lm ∧ tBM0 X.K "list" (LMr (gx X cl fa) lm) ta σ H Q) ∨ (∃ sm, smOf m.cps.toList = some sm ∧ tBM0 X.K "str" (SMr (gx X cl fa) sm) ta σ H Q) ∨
    ∃ c f fn, methOf tab c m.cps.toList = some f ∧ tab.fns[f]? = some fn ∧ tMethS (cl c) m (spOf (gx X cl fa) tab n f fn.np) (WE W) ta tNil σ H Q
theorem pe_mthA0 (C : CxOk T tab cl fa pss n X W) {o : Expr} {m : Str} {apos pos : Pos} {ta : TE} (ho : PE X o ta) (hns : noSup o = true) (hline : (apos.endLine == pos.line) = true) :
    PE X (.Call (.Attribute o m apos) [] [] pos) (tMth0 X tab cl fa n W m ta) := by
  refine ⟨fun pins s σ H Q I q => ?_⟩
  rcases q with ⟨lm, h1, q⟩ | ⟨sm, h1, q⟩ | ⟨c, f, fn, h1, h2, q⟩
  · have em := lmOf_ok h1
    subst em
    exact (pe_bm0 PySem.F.plainAttrs_list (lm_slot lm) (lm_type lm) (mt_lm (cl := cl) (fa := fa) lm) ho (base_of hns) hline).run pins s σ H Q I q
  · have em := smOf_ok h1
    subst em
    exact (pe_bm0 PySem.F.plainAttrs_str (sm_slot sm) (sm_type sm) (mt_sm (cl := cl) (fa := fa) sm) ho (base_of hns) hline).run pins s σ H Q I q
  · obtain ⟨k1, k2, _⟩ := C.nm.meth c _ f h1
    rw [toStr_cps] at k2
    obtain ⟨p1, p2, fd, F, B⟩ := C.fns f fn h2
    exact (pe_ownS0 (E := WE W) ho k1 k2 F C.room B (fun σ => passAt C.tk σ) hns hline).run pins s σ H Q I q
/-- a method's name means something -/
def mOk (tab : Tab) (m : Sy) : Prop := (∃ lm, lmOf m = some lm) ∨ (∃ sm, smOf m = some sm) ∨ ∃ c f fn, methOf tab c m = some f ∧ tab.fns[f]? = some fn
theorem s_mth (C : CxOk T tab cl fa pss n X W) {o : Expr} {m : Str} {apos pos : Pos} {e : Expr} {es : List Expr} {ces : CEs} {G : Expr → Option CE} {f : Env → Store → R PV} {h : Env → Store → R (List PV)} (ho : PE X o (LE (gx X cl fa) W f)) (ha : PA X (e :: es) (LA (gx X cl fa) W h)) (hns : noSup o = true) (hl : listM G (e :: es) = some ces)
    (hn : (e :: es).length < 20) (hline : (apos.endLine == pos.line) = true) (hm : mOk tab m.cps.toList) :
    PE X (.Call (.Attribute o m apos) (e :: es) [] pos) (LE (gx X cl fa) W (mthF tab n f m.cps.toList h)) := by
  refine pe_mono (pe_mthA C ho ha hns hl hn hline) fun σ H Q ⟨α, S, ρ, hr, he, hw⟩ => ?_
  have hw : Wp (gx X cl fa) ((f ρ S).bind fun x S => (ofO (mtOf tab x m.cps.toList S) S).bind fun tg S => (h ρ S).bind fun xs S => runM (cxF tab n) xs S tg) α H (PV1 (gx X cl fa) Q) (EW (gx X cl fa) W σ) := hw
  cases hv : f ρ S with
  | stuck => rw [hv] at hw; exact hw.elim
  | exc x S1 =>
    rw [hv] at hw
    rcases hm with ⟨lm, h1⟩ | ⟨sm, h1⟩ | ⟨c, g, fn, h1, h2⟩
    · refine .inl ⟨lm, h1, α, S, ρ, hr, he, ?_⟩
      rw [hv]
      exact hw
    · refine .inr (.inl ⟨sm, h1, α, S, ρ, hr, he, ?_⟩)
      rw [hv]
      exact hw
    · refine .inr (.inr ⟨c, g, fn, h1, h2, α, S, ρ, hr, he, ?_⟩)
      rw [hv]
      exact hw
  | ok x S1 =>
    have go : ∀ {P : PP PV}, (∀ α' H', Ext α H α' H' → Rep (gx X cl fa) α' S1 H' → P α' H' x S1) → Wp (gx X cl fa) (f ρ S) α H P (EW (gx X cl fa) W σ) := fun {P} h => by
      rw [hv]
      exact h
    rw [hv] at hw
    have hw : Wp (gx X cl fa) ((ofO (mtOf tab x m.cps.toList S1) S1).bind fun tg S => (h ρ S).bind fun xs S => runM (cxF tab n) xs S tg) α H (PV1 (gx X cl fa) Q) (EW (gx X cl fa) W σ) := hw
    cases ht : mtOf tab x m.cps.toList S1 with
    | none => rw [ht] at hw; exact hw.elim
    | some tg =>
      rw [ht] at hw
      have hw : Wp (gx X cl fa) ((h ρ S1).bind fun xs S => runM (cxF tab n) xs S tg) α H (PV1 (gx X cl fa) Q) (EW (gx X cl fa) W σ) := hw
      unfold mtOf at ht
      split at ht
      · rename_i p
        split at ht
        · rename_i ys hp
          simp only [Option.map_eq_some_iff] at ht
          obtain ⟨lm, h1, rfl⟩ := ht
          refine .inl ⟨lm, h1, α, S, ρ, hr, he, go fun α' H' e' r w hv' => ?_⟩
          obtain ⟨a, vs, rfl, ha2, e1, r1⟩ := r.list (X := X) hp hv'
          refine ⟨.inl ⟨rfl, vs, SqL.of e1⟩, α', S1, ρ, r, he.ext e', (hw.ext e').bind.imp1 fun α2 H2 xs S2 e2 r2 q2 ws vs2 => ?_⟩
          exact ⟨α2, S2, p, xs, _, r2, (RV.ext hv' e2), vs2, q2⟩
        · cases ht
        · cases ht
        · rename_i c fs hp
          split at ht
          · rename_i hno
            simp only [Option.map_eq_some_iff] at ht
            obtain ⟨g, h1, rfl⟩ := ht
            have hno : lookF m.cps.toList fs = none := by simpa using hno
            obtain ⟨k1, k2, k3⟩ := C.nm.meth c _ g h1
            refine .inr (.inr ⟨c, g, tab.fns[g], h1, by simp [k3], α, S, ρ, hr, he, go fun α' H' e' r w hv' => ?_⟩)
            obtain ⟨a, ha2, rfl⟩ := id hv'
            obtain ⟨dx, gs, e1, e2⟩ := r.at hp ha2
            have hl0 := rf_none e2 hno
            rw [toStr_cps] at hl0
            refine ⟨a, dx, gs, rfl, e1, hl0, α', S1, ρ, r, he.ext e', (hw.ext e').bind.imp1 fun α2 H2 xs S2 e2 r2 q2 ws vs2 => ?_⟩
            exact sp_of (xs := .ref p :: xs) (ws := .ref a :: ws) (by simp [k3]) r2 ⟨.ref a, ws, rfl, ⟨a, e2.at ha2, rfl⟩, vs2⟩ q2
          · cases ht
        · cases ht
      · rename_i y
        simp only [Option.map_eq_some_iff] at ht
        obtain ⟨sm, h1, rfl⟩ := ht
        refine .inr (.inl ⟨sm, h1, α, S, ρ, hr, he, go fun α' H' e' r w hv' => ?_⟩)
        cases hv'
        refine ⟨rfl, α', S1, ρ, r, he.ext e', (hw.ext e').bind.imp1 fun α2 H2 xs S2 e2 r2 q2 ws vs2 => ?_⟩
        exact ⟨α2, S2, y, xs, _, r2, rfl, vs2, q2⟩
      · cases ht
theorem s_mth0 (C : CxOk T tab cl fa pss n X W) {o : Expr} {m : Str} {apos pos : Pos} {f : Env → Store → R PV} (ho : PE X o (LE (gx X cl fa) W f)) (hns : noSup o = true)
    (hline : (apos.endLine == pos.line) = true) (hm : mOk tab m.cps.toList) :
    PE X (.Call (.Attribute o m apos) [] [] pos) (LE (gx X cl fa) W (mthF tab n f m.cps.toList (evalEs (cxF tab n) .nil))) := by
  refine pe_mono (pe_mthA0 C ho hns hline) fun σ H Q ⟨α, S, ρ, hr, he, hw⟩ => ?_
  have hw : Wp (gx X cl fa) ((f ρ S).bind fun x S => (ofO (mtOf tab x m.cps.toList S) S).bind fun tg S => runM (cxF tab n) [] S tg) α H (PV1 (gx X cl fa) Q) (EW (gx X cl fa) W σ) := hw
  cases hv : f ρ S with
  | stuck => rw [hv] at hw; exact hw.elim
  | exc x S1 =>
    rw [hv] at hw
    rcases hm with ⟨lm, h1⟩ | ⟨sm, h1⟩ | ⟨c, g, fn, h1, h2⟩
    · refine .inl ⟨lm, h1, α, S, ρ, hr, he, ?_⟩
      rw [hv]
      exact hw
    · refine .inr (.inl ⟨sm, h1, α, S, ρ, hr, he, ?_⟩)
      rw [hv]
      exact hw
    · refine .inr (.inr ⟨c, g, fn, h1, h2, α, S, ρ, hr, he, ?_⟩)
      rw [hv]
      exact hw
  | ok x S1 =>
    have go : ∀ {P : PP PV}, (∀ α' H', Ext α H α' H' → Rep (gx X cl fa) α' S1 H' → P α' H' x S1) → Wp (gx X cl fa) (f ρ S) α H P (EW (gx X cl fa) W σ) := fun {P} h => by
      rw [hv]
      exact h
    rw [hv] at hw
    have hw : Wp (gx X cl fa) ((ofO (mtOf tab x m.cps.toList S1) S1).bind fun tg S => runM (cxF tab n) [] S tg) α H (PV1 (gx X cl fa) Q) (EW (gx X cl fa) W σ) := hw
    cases ht : mtOf tab x m.cps.toList S1 with
    | none => rw [ht] at hw; exact hw.elim
    | some tg =>
      rw [ht] at hw
      have hw : Wp (gx X cl fa) (runM (cxF tab n) [] S1 tg) α H (PV1 (gx X cl fa) Q) (EW (gx X cl fa) W σ) := hw
      unfold mtOf at ht
      split at ht
      · rename_i p
        split at ht
        · rename_i ys hp
          simp only [Option.map_eq_some_iff] at ht
          obtain ⟨lm, h1, rfl⟩ := ht
          refine .inl ⟨lm, h1, α, S, ρ, hr, he, go fun α' H' e' r w hv' => ?_⟩
          obtain ⟨a, vs, rfl, ha2, e1, r1⟩ := r.list (X := X) hp hv'
          exact ⟨.inl ⟨rfl, vs, SqL.of e1⟩, α', S1, p, [], _, r, hv', rfl, hw.ext e'⟩
        · cases ht
        · cases ht
        · rename_i c fs hp
          split at ht
          · rename_i hno
            simp only [Option.map_eq_some_iff] at ht
            obtain ⟨g, h1, rfl⟩ := ht
            have hno : lookF m.cps.toList fs = none := by simpa using hno
            obtain ⟨k1, k2, k3⟩ := C.nm.meth c _ g h1
            refine .inr (.inr ⟨c, g, tab.fns[g], h1, by simp [k3], α, S, ρ, hr, he, go fun α' H' e' r w hv' => ?_⟩)
            obtain ⟨a, ha2, rfl⟩ := id hv'
            obtain ⟨dx, gs, e1, e2⟩ := r.at hp ha2
            have hl0 := rf_none e2 hno
            rw [toStr_cps] at hl0
            exact ⟨a, dx, gs, rfl, e1, hl0, sp_of (xs := [.ref p]) (ws := [.ref a]) (by simp [k3]) r ⟨.ref a, [], rfl, ⟨a, ha2, rfl⟩, rfl⟩ (hw.ext e')⟩
          · cases ht
        · cases ht
      · rename_i y
        simp only [Option.map_eq_some_iff] at ht
        obtain ⟨sm, h1, rfl⟩ := ht
        refine .inr (.inl ⟨sm, h1, α, S, ρ, hr, he, go fun α' H' e' r w hv' => ?_⟩)
        cases hv'
        exact ⟨rfl, α', S1, y, [], _, r, rfl, rfl, hw.ext e'⟩
      · cases ht
theorem s_fld (C : CxOk T tab cl fa pss n X W) {o : Expr} {m : Str} {pos : Pos} {f : Env → Store → R PV} (ho : PE X o (LE (gx X cl fa) W f)) (hns : noSup o = true) :
    PE X (.Attribute o m pos) (LE (gx X cl fa) W fun ρ S => (f ρ S).bind fun x S => ofO (getFld tab x m.cps.toList S) S) := by
  refine pe_mono (pe_fld ho (base_of hns)) fun σ H Q ⟨α, S, ρ, hr, he, hw⟩ => ⟨α, S, ρ, hr, he, hw.bind.imp1 fun α1 H1 x S1 e1 r1 q1 w1 v1 => ?_⟩
  obtain ⟨v, hv, q2⟩ := q1.ofO
  unfold getFld at hv
  split at hv
  · rename_i p
    split at hv
    · rename_i c fs hp
      split at hv
      · rename_i ha
        obtain ⟨a, ha2, rfl⟩ := v1
        obtain ⟨dx, gs, g1, g2⟩ := r1.at hp ha2
        obtain ⟨k1, k2⟩ := C.nm.attr c _ ha
        rw [toStr_cps] at k2
        have lk := rf_look (f := m.cps.toList) g2
        rw [hv, toStr_cps] at lk
        cases q : gs.lookup m with
        | none => rw [q] at lk; exact lk.elim
        | some w =>
          rw [q] at lk
          exact ⟨a, _, dx, gs, w, rfl, g1, k1, k2, q, q2.ok r1 w lk⟩
      · cases hv
    · cases hv
  · cases hv
theorem s_lens (C : CxOk T tab cl fa pss n X W) {a : Expr} {p p2 q pos : Pos} {f : Env → Store → R PV} (ha : PE X a (LE (gx X cl fa) W f)) (hst : isStar a = false) (g1 : Gl X "len") (g2 : Gl X "set") :
    PE X (.Call (.Name "len" p) [.Call (.Name "set" p2) [a] [] q] [] pos) (LE (gx X cl fa) W fun ρ S => (f ρ S).bind fun x S => ofO (lenSet S x) S) := by
  refine pe_mono (pe_lenSetN g1 (C.nm.free .len) g2 C.nm.set ha C.calm (star_cons hst)) fun σ H Q ⟨α, S, ρ, hr, he, hw⟩ => ⟨α, S, ρ, hr, he, hw.bind.imp1 fun α1 H1 x S1 e1 r1 q1 w1 v1 => ?_⟩
  obtain ⟨v, hv, q2⟩ := q1.ofO
  obtain ⟨l, ns, rfl, h1, h2, rfl⟩ := lenSet_of (X := X) r1 v1 hv
  exact ⟨l, ns, rfl, h1, h2, q2.ok r1 _ rfl⟩
theorem s_dnew {t : Bool} {pos : Pos} : PE X (.Dict [] [] pos) (LE (gx X cl fa) W fun _ S => .ok (.ref S.length) (S ++ [.dic t []])) := by
  cases t with
  | false =>
    refine pe_mono pe_dnewK fun σ H Q ⟨α, S, ρ, hr, he, hw⟩ p hp => ?_
    have e := Ext.push hr hp (.dK [])
    exact hw.okE e (hr.push hp ⟨[], upd_same, rfl⟩) _ ⟨p, by rw [← hr.len]; simp, rfl⟩
  | true =>
    refine pe_mono pe_dnewT fun σ H Q ⟨α, S, ρ, hr, he, hw⟩ p hp => ?_
    have e := Ext.push hr hp (.dT [])
    exact hw.okE e (hr.push hp ⟨[], upd_same, rfl⟩) _ ⟨p, by rw [← hr.len]; simp, rfl⟩
/-- an own place, written once more -/
theorem Rep.pushP {g : G} {α : List Addr} {S : Store} {H : Hp} {p : Addr} (r : Rep g α S H) (hp : p ∉ α) {o : HO} {mo : MO} (kp : Kp α H (α ++ [p]) (upd H p o)) (h : MOk g (α ++ [p]) (upd H p o) p mo) : Rep g (α ++ [p]) (S ++ [mo]) (upd H p o) := by
  refine ⟨by simp [r.len], ?_, fun n q hn => ?_⟩
  · rw [List.nodup_append]
    refine ⟨r.nd, by simp, fun b hb c hc => ?_⟩
    simp at hc
    subst hc
    rintro rfl
    exact hp hb
  · by_cases hlt : n < S.length
    · rw [List.getElem?_append_left hlt] at hn
      obtain ⟨b, hb, z⟩ := r.ok n q hn
      refine ⟨b, kp.at_ _ _ hb, z.kp kp (upd_ne fun y => ?_)⟩
      subst y
      exact hp (List.mem_of_getElem? hb)
    · have hnl : n < (S ++ [mo]).length := (List.getElem?_eq_some_iff.mp hn).1
      have hn2 : n = S.length := by simp at hnl; omega
      subst hn2
      simp at hn
      subst hn
      exact ⟨p, by rw [← r.len]; simp, h⟩
/-- {k: v} -/
theorem s_ddis {a b : Expr} {pos : Pos} {f g : Env → Store → R PV} (ha : PE X a (LE (gx X cl fa) W f)) (hb : PE X b (LE (gx X cl fa) W g)) :
    PE X (.Dict [some a] [b] pos) (LE (gx X cl fa) W fun ρ S => (f ρ S).bind fun x S => (g ρ S).bind fun y S => if isKey false x then .ok (.ref S.length) (S ++ [.dic false [(x, y)]]) else .stuck) := by
  refine pe_mono (pe_disp (pps_cons ha hb pps_nil) rfl rfl (by simp) (by simp)) fun σ H Q ⟨α, S, ρ, hr, he, hw⟩ p hp => ?_
  have e0 : Ext α H α (upd H p (.dK [])) := Ext.new hp _
  have r0 : Rep (gx X cl fa) α S (upd H p (.dK [])) := hr.new hp _
  have hpo : p ∉ α := hr.out hp
  have hw : Wp (gx X cl fa) ((f ρ S).bind fun x S => (g ρ S).bind fun y S => if isKey false x then .ok (.ref S.length) (S ++ [.dic false [(x, y)]]) else .stuck) α H (PV1 (gx X cl fa) Q) (EW (gx X cl fa) W σ) := hw
  cases hf : f ρ S with
  | stuck => rw [hf] at hw; exact hw.elim
  | exc x S1 =>
    refine ⟨α, S, ρ, r0, he.ext e0, ?_⟩
    rw [hf] at hw ⊢
    exact Pst.ext (show Pst (gx X cl fa) α H _ x S1 from hw) e0
  | ok x S1 =>
    refine ⟨α, S, ρ, r0, he.ext e0, ?_⟩
    rw [hf] at hw ⊢
    have hw : Wp (gx X cl fa) ((g ρ S1).bind fun y S => if isKey false x then .ok (.ref S.length) (S ++ [.dic false [(x, y)]]) else .stuck) α H (PV1 (gx X cl fa) Q) (EW (gx X cl fa) W σ) := hw
    intro α1 H1 e1 r1 w1 v1
    refine ⟨α1, S1, ρ, r1, (he.ext e0).ext e1, ?_⟩
    have e01 := e0.trans e1
    cases hg : g ρ S1 with
    | stuck => rw [hg] at hw; exact hw.elim
    | exc z S2 =>
      rw [hg] at hw
      exact Pst.ext (show Pst (gx X cl fa) α H _ z S2 from hw) e01
    | ok y S2 =>
      rw [hg] at hw
      intro α2 H2 e2 r2 w2 v2
      have hw : Wp (gx X cl fa) (if isKey false x then .ok (.ref S2.length) (S2 ++ [.dic false [(x, y)]]) else .stuck) α H (PV1 (gx X cl fa) Q) (EW (gx X cl fa) W σ) := hw
      have e12 := e1.trans e2
      have h2p : H2 p = some (.dK []) := e12.keep p _ upd_same hpo
      have hp2 : p ∉ α2 := fun m => by
        obtain ⟨β, rfl, hβ⟩ := e12.pre
        rcases List.mem_append.mp m with m | m
        · exact hpo m
        · have := hβ p m
          rw [upd_same] at this
          cases this
      split at hw
      · rename_i hk
        refine ⟨h2p, ?_⟩
        obtain ⟨j, hj⟩ := isKey_f hk
        have ev := key_rv (v1.ext e2) hj
        subst ev
        refine ⟨[(j, w2)], rfl, by simp, ?_⟩
        have kp : Kp α2 H2 (α2 ++ [p]) (upd H2 p (.dK (mergeK [] [(j, w2)]))) := by
          refine ⟨fun n c h => by rw [List.getElem?_append_left (List.getElem?_eq_some_iff.mp h).1]; exact h, fun b ys q => ?_, fun b u v q _ => ?_⟩
          · rw [upd_ne]; exact q
            rintro rfl
            rw [h2p] at q; cases q
          · rw [upd_ne]; exact q
            rintro rfl
            rw [h2p] at q; cases q
        have e02 := e0.trans e12
        have ne : ∀ b u, H b = some u → b ≠ p := fun b u hb z => by subst z; rw [hp] at hb; cases hb
        have eU : Ext α H (α2 ++ [p]) (upd H2 p (.dK (mergeK [] [(j, w2)]))) := by
          obtain ⟨β, hβ, hβn⟩ := e02.pre
          refine ⟨⟨β ++ [p], by rw [hβ, List.append_assoc], fun b hb => ?_⟩, fun b u hb hn => ?_, fun b u hb => ?_, fun b ys hb => ?_, fun b o u hb => ?_⟩
          · rcases List.mem_append.mp hb with hb | hb
            · exact hβn b hb
            · rw [List.mem_singleton.mp hb]
              exact hp
          · rw [upd_ne (ne b u hb)]
            exact e02.keep b u hb hn
          · obtain ⟨u', h'⟩ := e02.there b u hb
            exact ⟨u', by rw [upd_ne (ne b u hb)]; exact h'⟩
          · rw [upd_ne (ne b _ hb)]
            exact e02.tups b ys hb
          · rw [upd_ne (ne b _ hb)]
            exact e02.frzs b o u hb
        have rU : Rep (gx X cl fa) (α2 ++ [p]) (S2 ++ [.dic false [(x, y)]]) (upd H2 p (.dK (mergeK [] [(j, w2)]))) :=
          r2.pushP hp2 kp ⟨_, upd_same, j, w2, [], rfl, hj, v2.kp kp, rfl⟩
        exact hw.okE eU rU _ ⟨p, by rw [← r2.len]; simp, rfl⟩
      · exact hw.elim
theorem s_ddist (C : CxOk T tab cl fa pss n X W) {a b : Expr} {pos : Pos} {f g : Env → Store → R PV} (ha : PE X a (LE (gx X cl fa) W f)) (hb : PE X b (LE (gx X cl fa) W g)) :
    PE X (.Dict [some a] [b] pos) (LE (gx X cl fa) W fun ρ S => (f ρ S).bind fun x S => (g ρ S).bind fun y S => if isKey true x then .ok (.ref S.length) (S ++ [.dic true [(x, y)]]) else .stuck) := by
  refine pe_mono (pe_dispT ha hb (by have := hu64 C; omega)) fun σ H Q ⟨α, S, ρ, hr, he, hw⟩ p hp => ?_
  have e0 : Ext α H α (upd H p (.dT [])) := Ext.new hp _
  have r0 : Rep (gx X cl fa) α S (upd H p (.dT [])) := hr.new hp _
  have hpo : p ∉ α := hr.out hp
  have hw : Wp (gx X cl fa) ((f ρ S).bind fun x S => (g ρ S).bind fun y S => if isKey true x then .ok (.ref S.length) (S ++ [.dic true [(x, y)]]) else .stuck) α H (PV1 (gx X cl fa) Q) (EW (gx X cl fa) W σ) := hw
  cases hf : f ρ S with
  | stuck => rw [hf] at hw; exact hw.elim
  | exc x S1 =>
    refine ⟨α, S, ρ, r0, he.ext e0, ?_⟩
    rw [hf] at hw ⊢
    exact Pst.ext (show Pst (gx X cl fa) α H _ x S1 from hw) e0
  | ok x S1 =>
    refine ⟨α, S, ρ, r0, he.ext e0, ?_⟩
    rw [hf] at hw ⊢
    have hw : Wp (gx X cl fa) ((g ρ S1).bind fun y S => if isKey true x then .ok (.ref S.length) (S ++ [.dic true [(x, y)]]) else .stuck) α H (PV1 (gx X cl fa) Q) (EW (gx X cl fa) W σ) := hw
    intro α1 H1 e1 r1 w1 v1
    refine ⟨α1, S1, ρ, r1, (he.ext e0).ext e1, ?_⟩
    have e01 := e0.trans e1
    cases hg : g ρ S1 with
    | stuck => rw [hg] at hw; exact hw.elim
    | exc z S2 =>
      rw [hg] at hw
      exact Pst.ext (show Pst (gx X cl fa) α H _ z S2 from hw) e01
    | ok y S2 =>
      rw [hg] at hw
      intro α2 H2 e2 r2 w2 v2
      have hw : Wp (gx X cl fa) (if isKey true x then .ok (.ref S2.length) (S2 ++ [.dic true [(x, y)]]) else .stuck) α H (PV1 (gx X cl fa) Q) (EW (gx X cl fa) W σ) := hw
      have e12 := e1.trans e2
      have h2p : H2 p = some (.dT []) := e12.keep p _ upd_same hpo
      have hp2 : p ∉ α2 := fun m => by
        obtain ⟨β, rfl, hβ⟩ := e12.pre
        rcases List.mem_append.mp m with m | m
        · exact hpo m
        · have := hβ p m
          rw [upd_same] at this
          cases this
      split at hw
      · rename_i hk
        refine ⟨h2p, ?_⟩
        obtain ⟨xs, js, rfl, hj⟩ := isKey_t hk
        obtain ⟨b, vs, rfl, hb, rs⟩ := v1.ext e2
        have ev := keys_rv rs hj
        subst ev
        refine ⟨b, js, rfl, hb, ?_⟩
        have bp : b ≠ p := fun e => by subst e; rw [h2p] at hb; cases hb
        have kp : Kp α2 H2 (α2 ++ [p]) (upd H2 p (.dT [(js, w2)])) := by
          refine ⟨fun n c h => by rw [List.getElem?_append_left (List.getElem?_eq_some_iff.mp h).1]; exact h, fun b ys q => ?_, fun b u v q _ => ?_⟩
          · rw [upd_ne]; exact q
            rintro rfl
            rw [h2p] at q; cases q
          · rw [upd_ne]; exact q
            rintro rfl
            rw [h2p] at q; cases q
        have e02 := e0.trans e12
        have ne : ∀ b u, H b = some u → b ≠ p := fun b u hb z => by subst z; rw [hp] at hb; cases hb
        have eU : Ext α H (α2 ++ [p]) (upd H2 p (.dT [(js, w2)])) := by
          obtain ⟨β, hβ, hβn⟩ := e02.pre
          refine ⟨⟨β ++ [p], by rw [hβ, List.append_assoc], fun b hb => ?_⟩, fun b u hb hn => ?_, fun b u hb => ?_, fun b ys hb => ?_, fun b o u hb => ?_⟩
          · rcases List.mem_append.mp hb with hb | hb
            · exact hβn b hb
            · rw [List.mem_singleton.mp hb]
              exact hp
          · rw [upd_ne (ne b u hb)]
            exact e02.keep b u hb hn
          · obtain ⟨u', h'⟩ := e02.there b u hb
            exact ⟨u', by rw [upd_ne (ne b u hb)]; exact h'⟩
          · rw [upd_ne (ne b _ hb)]
            exact e02.tups b ys hb
          · rw [upd_ne (ne b _ hb)]
            exact e02.frzs b o u hb
        have rU : Rep (gx X cl fa) (α2 ++ [p]) (S2 ++ [.dic true [(.tup xs, y)]]) (upd H2 p (.dT [(js, w2)])) :=
          r2.pushP hp2 kp ⟨_, upd_same, js, w2, [], rfl, ⟨xs, rfl, hj⟩, v2.kp kp, rfl⟩
        exact hw.okE eU rU _ ⟨p, by rw [← r2.len]; simp, rfl⟩
      · exact hw.elim
/-! ### dicts' methods, list(zip(..)), x[::-1] -/
theorem few1 {a : Expr} (env : PySem.Env) (pos : Pos) (h : isStar a = false) : ((backTo pos (starEach [a] env)).all (fun x => !x.1) && (backToKw pos (keywordEach [] env)).all (fun x => x.1.isSome)
    && decide (([a] : List Expr).length + ([] : List Keyword).length + (if ([] : List Keyword).isEmpty then 0 else 1) < 30)) = true :=
  few_of (F := fun _ => some (.con .non)) (ces := .cons (.con .non) .nil) env pos (by simp [listM, h]) (by simp)
theorem few2 {a b : Expr} (env : PySem.Env) (pos : Pos) (h : isStar a = false) (h2 : isStar b = false) : ((backTo pos (starEach [a, b] env)).all (fun x => !x.1) && (backToKw pos (keywordEach [] env)).all (fun x => x.1.isSome)
    && decide (([a, b] : List Expr).length + ([] : List Keyword).length + (if ([] : List Keyword).isEmpty then 0 else 1) < 30)) = true :=
  few_of (F := fun _ => some (.con .non)) (ces := .cons (.con .non) (.cons (.con .non) .nil)) env pos (by simp [listM, h, h2]) (by simp)
theorem isDic_of {α : List Addr} {S : Store} {H : Hp} {x : PV} {w : V} (r : Rep (gx X cl fa) α S H) (v : RV X.K α H x w) (h : isDic S x = some ()) : ∃ a, w = .ref a ∧ IsD H a := by
  unfold isDic at h
  split at h
  · split at h
    · rename_i p t kvs hp
      obtain ⟨a, ha, rfl⟩ := v
      have m := r.at hp ha
      refine ⟨a, rfl, ?_⟩
      cases t with
      | false =>
        obtain ⟨ds, h1, _⟩ := m
        exact .inl ⟨ds, .inl h1⟩
      | true =>
        obtain ⟨ds, h1, _⟩ := m
        exact .inr ⟨ds, .inl h1⟩
    · cases h
  · cases h
theorem dGetV_of {α : List Addr} {S : Store} {H : Hp} {x y z v : PV} {w u : V} {a : Addr} (r : Rep (gx X cl fa) α S H) (hx : RV X.K α H x w) (ew : w = .ref a) (hy : RV X.K α H y u) (h : dGetV S x y z = some v) : ∃ o, DGet H a u o ∧ ∀ wz, RV X.K α H z wz → RV X.K α H v (o.getD wz) := by
  unfold dGetV at h
  split at h
  · split at h
    · rename_i p t kvs hp
      split at h
      · rename_i hk
        cases h
        obtain ⟨b, o, e1, e2, e3, e4⟩ := r.dict (X := X) hp hx hk hy
        have : a = b := V.ref.inj (ew.symm.trans e1)
        subst this
        refine ⟨o, e3, fun wz hz => ?_⟩
        cases q : dget kvs y with
        | none =>
          rw [q] at e4
          cases o with
          | none => exact hz
          | some _ => exact e4.elim
        | some v' =>
          rw [q] at e4
          cases o with
          | none => exact e4.elim
          | some _ => exact e4
      · cases h
    · cases h
  · cases h
theorem s_dget1 (C : CxOk T tab cl fa pss n X W) {o a : Expr} {apos pos : Pos} {f h : Env → Store → R PV} (ho : PE X o (LE (gx X cl fa) W f)) (ha : PE X a (LE (gx X cl fa) W h)) (hns : noSup o = true) (hst : isStar a = false) (hline : (apos.endLine == pos.line) = true) :
    PE X (.Call (.Attribute o "get" apos) [a] [] pos) (LE (gx X cl fa) W fun ρ S => (f ρ S).bind fun x S => (ofO (isDic S x) S).bind fun _ S => (h ρ S).bind fun y S => ofO (dGetV S x y .non) S) := by
  refine pe_mono (pe_dget1 (by have := hu64 C; omega) ho ha ⟨base_of hns, few1 X.env pos hst, hline, by rw [star_cons hst]; rfl⟩) fun σ H Q ⟨α, S, ρ, hr, he, hw⟩ => ?_
  refine ⟨α, S, ρ, hr, he, hw.bind.imp1 fun α1 H1 x S1 e1 r1 q1 w1 v1 => ?_⟩
  rw [ofO_bind] at q1
  split at q1
  · rename_i hd
    obtain ⟨ad, rfl, hisd⟩ := isDic_of r1 v1 hd
    refine ⟨ad, rfl, hisd, α1, S1, ρ, r1, he.ext e1, q1.bind.imp1 fun α2 H2 y S2 e2 r2 q2 w2 v2 => ?_⟩
    obtain ⟨v, hv, q3⟩ := q2.ofO
    obtain ⟨oo, g1, g2⟩ := dGetV_of r2 (v1.ext e2) rfl v2 hv
    exact ⟨oo, g1, q3.ok r2 _ (g2 .non rfl)⟩
  · exact q1.elim
theorem s_dget2 (C : CxOk T tab cl fa pss n X W) {o a b : Expr} {apos pos : Pos} {f h k : Env → Store → R PV} (ho : PE X o (LE (gx X cl fa) W f)) (ha : PE X a (LE (gx X cl fa) W h)) (hb : PE X b (LE (gx X cl fa) W k)) (hns : noSup o = true) (hst : isStar a = false) (hst2 : isStar b = false) (hline : (apos.endLine == pos.line) = true) :
    PE X (.Call (.Attribute o "get" apos) [a, b] [] pos) (LE (gx X cl fa) W fun ρ S => (f ρ S).bind fun x S => (ofO (isDic S x) S).bind fun _ S => (h ρ S).bind fun y S => (k ρ S).bind fun z S => ofO (dGetV S x y z) S) := by
  refine pe_mono (pe_dget2 (by have := hu64 C; omega) ho ha hb ⟨base_of hns, few2 X.env pos hst hst2, hline, by rw [star_cons hst, star_cons hst2]; rfl⟩) fun σ H Q ⟨α, S, ρ, hr, he, hw⟩ => ?_
  refine ⟨α, S, ρ, hr, he, hw.bind.imp1 fun α1 H1 x S1 e1 r1 q1 w1 v1 => ?_⟩
  rw [ofO_bind] at q1
  split at q1
  · rename_i hd
    obtain ⟨ad, rfl, hisd⟩ := isDic_of r1 v1 hd
    refine ⟨ad, rfl, hisd, α1, S1, ρ, r1, he.ext e1, q1.bind.imp1 fun α2 H2 y S2 e2 r2 q2 w2 v2 => ⟨α2, S2, ρ, r2, (he.ext e1).ext e2, q2.bind.imp1 fun α3 H3 z S3 e3 r3 q3 w3 v3 => ?_⟩⟩
    obtain ⟨v, hv, q4⟩ := q3.ofO
    obtain ⟨oo, g1, g2⟩ := dGetV_of r3 ((v1.ext e2).ext e3) rfl (v2.ext e3) hv
    exact ⟨oo, g1, q4.ok r3 _ (g2 _ v3)⟩
  · exact q1.elim
theorem s_dset (C : CxOk T tab cl fa pss n X W) {o a b : Expr} {apos pos : Pos} {f h k : Env → Store → R PV} (ho : PE X o (LE (gx X cl fa) W f)) (ha : PE X a (LE (gx X cl fa) W h)) (hb : PE X b (LE (gx X cl fa) W k)) (hns : noSup o = true) (hst : isStar a = false) (hst2 : isStar b = false) (hline : (apos.endLine == pos.line) = true) :
    PE X (.Call (.Attribute o "setdefault" apos) [a, b] [] pos) (LE (gx X cl fa) W fun ρ S => (f ρ S).bind fun x S => (ofO (isDic S x) S).bind fun _ S => (h ρ S).bind fun y S => (k ρ S).bind fun z S => dSetV S x y z) := by
  refine pe_mono (pe_dsetA (by have := hu64 C; omega) ho ha hb ⟨base_of hns, few2 X.env pos hst hst2, hline, by rw [star_cons hst, star_cons hst2]; rfl⟩) fun σ H Q ⟨α, S, ρ, hr, he, hw⟩ => ?_
  refine ⟨α, S, ρ, hr, he, hw.bind.imp1 fun α1 H1 x S1 e1 r1 q1 w1 v1 => ?_⟩
  rw [ofO_bind] at q1
  split at q1
  · rename_i hd
    obtain ⟨ad, rfl, hisd⟩ := isDic_of r1 v1 hd
    refine ⟨ad, rfl, hisd, α1, S1, ρ, r1, he.ext e1, q1.bind.imp1 fun α2 H2 y S2 e2 r2 q2 w2 v2 => ⟨α2, S2, ρ, r2, (he.ext e1).ext e2, q2.bind.imp1 fun α3 H3 z S3 e3 r3 q3 w3 v3 => ?_⟩⟩
    have hv2 := v2.ext e3
    have hv1 := (v1.ext e2).ext e3
    unfold dSetV at q3
    split at q3
    · rename_i p
      split at q3
      · rename_i t kvs hp
        split at q3
        · rename_i hc
          simp only [Bool.and_eq_true, decide_eq_true_eq] at hc
          obtain ⟨hk, hl⟩ := hc
          obtain ⟨ad', ha', ea⟩ := hv1
          cases ea
          have m := r3.at hp ha'
          have hm := List.mem_of_getElem? ha'
          cases t with
          | false =>
            obtain ⟨ds, h1, h2⟩ := m
            obtain ⟨j, hj⟩ := isKey_f hk
            have ey := key_rv hv2 hj
            have g := rd_get krK_ok hj h2
            refine .inl ⟨ds, j, h1, ey, by rw [← rd_len h2, ← nsz_eq]; exact hl, fun v hv => ?_, fun hn => ?_⟩
            · rw [hv] at g
              split at q3
              · rename_i v' hv'
                rw [hv'] at g
                exact q3.ok r3 _ g
              · rename_i hn'
                rw [hn'] at g
                exact g.elim
            · rw [hn] at g
              split at q3
              · rename_i v' hv'
                rw [hv'] at g
                exact g.elim
              · have ex := Ext.set hm h1 rfl (.dK (putK ds j w3))
                exact q3.okE ex (r3.set ha' ex.kp ⟨_, upd_same, RDg.kp ex.kp (rd_put krK_ok hj v3 h2)⟩) _ (v3.ext ex)
          | true =>
            obtain ⟨ds, h1, h2⟩ := m
            obtain ⟨xs, js, rfl, hj⟩ := isKey_t hk
            obtain ⟨b, vs, rfl, hb, rs⟩ := hv2
            have ev := keys_rv rs hj
            subst ev
            have g := rd_get krT_ok ⟨xs, rfl, hj⟩ h2
            refine .inr ⟨ds, js, b, h1, rfl, hb, by rw [← rd_len h2, ← nsz_eq]; exact hl, fun v hv => ?_, fun hn => ?_⟩
            · rw [hv] at g
              split at q3
              · rename_i v' hv'
                rw [hv'] at g
                exact q3.ok r3 _ g
              · rename_i hn'
                rw [hn'] at g
                exact g.elim
            · rw [hn] at g
              split at q3
              · rename_i v' hv'
                rw [hv'] at g
                exact g.elim
              · have ex := Ext.set hm h1 rfl (.dT (putK ds js w3))
                exact q3.okE ex (r3.set ha' ex.kp ⟨_, upd_same, RDg.kp ex.kp (rd_put krT_ok ⟨xs, rfl, hj⟩ v3 h2)⟩) _ (v3.ext ex)
        · exact q3.elim
      · exact q3.elim
    · exact q3.elim
  · exact q1.elim
theorem zip_rv {K : PySem.W.Frag} {α : List Addr} {H : Hp} : ∀ {as bs : List PV} {xs ys : List V} {ts : List Nat}, RVs K α H as xs → RVs K α H bs ys → as.length = bs.length → ts.length = xs.length →
    (∀ (j t : Nat), ts[j]? = some t → ∃ x y, xs[j]? = some x ∧ ys[j]? = some y ∧ H t = some (.tup [x, y])) → RVs K α H (zipP as bs) (ts.map V.ref)
  | [], [], xs, ys, ts, h1, h2, hl, ht, h => by
    cases h1
    cases ts with
    | nil => exact rfl
    | cons _ _ => cases ht
  | [], _ :: _, _, _, _, _, _, hl, _, _ => by cases hl
  | _ :: _, [], _, _, _, _, _, hl, _, _ => by cases hl
  | a :: as, b :: bs, xs, ys, ts, h1, h2, hl, ht, h => by
    obtain ⟨x, xs', rfl, p1, p2⟩ := h1
    obtain ⟨y, ys', rfl, q1, q2⟩ := h2
    cases ts with
    | nil => cases ht
    | cons t ts =>
      obtain ⟨x', y', e1, e2, e3⟩ := h 0 t rfl
      cases e1
      cases e2
      exact ⟨.ref t, ts.map V.ref, rfl, ⟨t, _, rfl, e3, x, _, rfl, p1, y, _, rfl, q1, rfl⟩, zip_rv p2 q2 (by simpa using hl) (by simpa using ht) fun j t' hj => h (j + 1) t' (by simpa using hj)⟩
theorem s_lzip (C : CxOk T tab cl fa pss n X W) {a b : Expr} {p p2 q pos : Pos} {f h : Env → Store → R PV} (ha : PE X a (LE (gx X cl fa) W f)) (hb : PE X b (LE (gx X cl fa) W h)) (hst : isStar a = false) (hst2 : isStar b = false) (g1 : Gl X "list") (g2 : Gl X "zip") :
    PE X (.Call (.Name "list" p) [.Call (.Name "zip" p2) [a, b] [] q] [] pos) (LE (gx X cl fa) W fun ρ S => (f ρ S).bind fun x S => (h ρ S).bind fun y S => lzipV x y S) := by
  have hp : PA X [a, b] (tCons (LE (gx X cl fa) W f) (tCons (LE (gx X cl fa) W h) tNil)) := pa_cons ha (pa_cons hb pa_nil (star_cons hst2)) (star_cons hst)
  refine pe_mono (pe_lzip g1 (C.nm.free .list) g2 C.nm.zip hp C.calm (star_cons hst) (by rw [star_cons hst2]; rfl)) fun σ H Q ⟨α, S, ρ, hr, he, hw⟩ => ?_
  refine ⟨α, S, ρ, hr, he, hw.bind.imp1 fun α1 H1 x S1 e1 r1 q1 w1 v1 => ⟨α1, S1, ρ, r1, he.ext e1, q1.bind.imp1 fun α2 H2 y S2 e2 r2 q2 w2 v2 => ?_⟩⟩
  have hv1 := v1.ext e2
  unfold lzipV at q2
  split at q2
  · rename_i as bs
    split at q2
    · rename_i hl
      obtain ⟨a1, xs, rfl, k1, k2⟩ := hv1
      obtain ⟨a2, ys, rfl, k3, k4⟩ := v2
      refine ⟨a1, a2, xs, ys, rfl, SqT.of k1, SqT.of k3, by rw [← k2.length, ← k4.length]; exact hl, fun Hm pp ts hold hn hlen hat => ?_⟩
      have eM : Ext α2 H2 α2 Hm := ⟨⟨[], by simp, by simp⟩, fun a o z _ => hold a o z, fun a o z => ⟨o, hold a o z⟩, fun b xs z => hold _ _ z, fun b o u z => hold _ _ z⟩
      have rM := r2.ext0 eM fun b hb => by
        obtain ⟨u, z⟩ := r2.mem hb
        rw [z]
        exact hold _ _ z
      have eP := Ext.push rM hn (.lst (ts.map V.ref))
      refine q2.okE (eM.trans eP) (rM.push hn ⟨_, upd_same, RVs.ext (zip_rv (k2.ext eM) (k4.ext eM) hl hlen hat) eP⟩) _ ⟨pp, by rw [← r2.len]; simp, rfl⟩
    · exact q2.elim
  · exact q2.elim
/-- list(range(a, b)) -/
theorem rg_rv {α : List Addr} {H : Hp} (i : Int) : ∀ (l : List Nat), RVs X.K α H (l.map fun (k : Nat) => PV.int (i + (k : Int))) (l.map fun (k : Nat) => V.int (i + (k : Int)))
  | [] => rfl
  | k :: l => ⟨_, _, rfl, rfl, rg_rv i l⟩
theorem s_lrng (C : CxOk T tab cl fa pss n X W) {a b : Expr} {p p2 q pos : Pos} {f h : Env → Store → R PV} (ha : PE X a (LE (gx X cl fa) W f)) (hb : PE X b (LE (gx X cl fa) W h)) (hst : isStar a = false) (hst2 : isStar b = false) (g1 : Gl X "list") (g2 : Gl X "range") :
    PE X (.Call (.Name "list" p) [.Call (.Name "range" p2) [a, b] [] q] [] pos) (LE (gx X cl fa) W fun ρ S => (f ρ S).bind fun x S => (h ρ S).bind fun y S => lrngV x y S) := by
  refine pe_mono (pe_listRg C.calm g1 (C.nm.free .list) (prg_2 g2 C.nm.range ha hb (star_cons hst) (star_cons hst2) (by rw [star_cons hst2]; rfl)) rfl) fun σ H Q ⟨α, S, ρ, hr, he, hw⟩ => ?_
  refine ⟨α, S, ρ, hr, he, hw.bind.imp1 fun α1 H1 x S1 e1 r1 q1 w1 v1 => ⟨α1, S1, ρ, r1, he.ext e1, q1.bind.imp1 fun α2 H2 y S2 e2 r2 q2 w2 v2 => ?_⟩⟩
  have hv1 := v1.ext e2
  unfold lrngV at q2
  split at q2
  · rename_i i j
    cases hv1; cases v2
    split at q2
    · rename_i hl
      obtain ⟨h1, h2, h3, h4, h5⟩ := hl
      exact ⟨i, j, rfl, rfl, ⟨h1, h2, h3, h4, by omega⟩, q2.lst r2 (rg_rv i _)⟩
    · exact q2.elim
  · exact q2.elim
theorem s_rev {a : Expr} {k : Nat} {p1 p2 p3 pos : Pos} {f : Env → Store → R PV} (ha : PE X a (LE (gx X cl fa) W f)) : PE X (.Subscript a (.Slice none none (some (.UnaryOp .USub (.Constant (.int 1) k p1) p2)) p3) pos) (LE (gx X cl fa) W fun ρ S => (f ρ S).bind fun x S => match x with
    | .ref p => match S[p]? with
      | some (.lst xs) => .ok (.ref S.length) (S ++ [.lst xs.reverse])
      | _ => .stuck
    | .tup xs => .ok (.tup xs.reverse) S
    | _ => .stuck) := by
  refine pe_mono (pe_revA ha) fun σ H Q ⟨α, S, ρ, hr, he, hw⟩ => ?_
  refine ⟨α, S, ρ, hr, he, hw.bind.imp1 fun α1 H1 x S1 e1 r1 q1 w1 v1 => ?_⟩
  split at q1
  · rename_i p
    split at q1
    · rename_i xs hp
      obtain ⟨a, vs, rfl, ha, e, r⟩ := r1.list (X := X) hp v1
      exact ⟨a, vs, rfl, .inl ⟨SqL.of e, q1.lst r1 r.rev⟩⟩
    · exact q1.elim
  · rename_i xs
    obtain ⟨a, vs, rfl, h1, h2⟩ := v1
    exact ⟨a, vs, rfl, .inr ⟨SqT.of h1, q1.tup r1 h2.rev⟩⟩
  · exact q1.elim
/-! ### makings -/
theorem run_makeS {CX : CXT} {k : Nat} {f C : Addr} {fd : FuncData} {ps : List Str} {sp : Sp} {E : L2.St → XK} {pins : List (Addr × Obj)} {σ : L2.St} {H : Hp} {s : Shared} {Q : VK} {us : List Value} {vs : List V} (M : Mk X.K C f) (F : FnOk X.prog X.w X.K X.mg X.base CX k f fd ps sp) (hr : Room (k + 1) X.A) (hb : Binds X.K fd ps [])
    (hx : PassesAt CX X σ (E σ)) (I : Inv X pins σ H s) (r : Vals vs us)
    (h : ∀ x dx, H x = none → H dx = none → dx ≠ x → sp (.ref x :: vs) (upd (upd H dx (.own x)) x (.ins C dx [])) (fun v H2 => v = .non ∧ Q (.ref x) H2) (E σ)) :
    wpAny (model X.prog X.w) X.A (call (.ref C) us) (EP X pins σ Q) X.xe s := by
  have hq := h (s.heap.objs.size + 1) s.heap.objs.size (I.hok.fresh (Nat.le_succ _)) (I.hok.fresh (Nat.le_refl _)) (Nat.ne_of_lt (Nat.lt_succ_self _))
  have I2 := Inv.made (C := C) I
  have r2 : Vals (V.ref (s.heap.objs.size + 1) :: vs) (Value.ref (s.heap.objs.size + 1) :: us) := .cons rfl r
  have hl : (Value.ref (s.heap.objs.size + 1) :: us ++ []).length = ps.length := by
    have e := r2.length
    rw [F.len _ _ _ _ hq] at e
    rw [List.append_nil]
    exact e.symm
  have hb2 := hb _ (Value.ref (s.heap.objs.size + 1) :: us) I2.kIn hl
  rw [List.append_nil] at hb2
  refine wpAny_call (make_map (f := f) I.kIn M.makes M.init (beq_iff_eq.mp M.fn) (codeAny_mono (F.run _ X.stack _ _ ⟨Value.ref (s.heap.objs.size + 1) :: us, []⟩ (Value.ref (s.heap.objs.size + 1) :: us) _ _ (E σ) (hr.make C us [])
    (I2.env0.make C us []) hb2 r2 hq) fun r s' hq' => ?_))
  cases r with
  | error e => exact hx pins _ _ e s' I2 hq'
  | ok fl =>
    cases fl with
    | ret u =>
      obtain ⟨v, H', I3, rv, ev, q3⟩ := I2.after hq'
      subst ev
      exact ⟨rv, ⟨V.ref (s.heap.objs.size + 1), H', I3, rfl, q3⟩⟩
    | next => exact False.elim hq'
    | brk => exact False.elim hq'
    | cont => exact False.elim hq'
def tMakeS (C : Addr) (sp : Sp) (E : L2.St → XK) (t : TA) : TE := fun σ H Q => t σ H fun vs H1 => ∀ x dx, H1 x = none → H1 dx = none → dx ≠ x →
  sp (.ref x :: vs) (upd (upd H1 dx (.own x)) x (.ins C dx [])) (fun v H2 => v = .non ∧ Q (.ref x) H2) (E σ)
theorem pe_makeS {CX : CXT} {k : Nat} {f C : Addr} {fd : FuncData} {ps : List Str} {sp : Sp} {E : L2.St → XK} {x : Str} {p pos : Pos} {e : Expr} {es : List Expr} {t : TA} (M : Mk X.K C f) (F : FnOk X.prog X.w X.K X.mg X.base CX k f fd ps sp) (hr : Room (k + 1) X.A) (hg : Gl X x) (hm : X.mg x = some (.ref C)) (hb : Binds X.K fd ps []) (hx : ∀ σ, PassesAt CX X σ (E σ))
    (ha : PA X (e :: es) t) (hdb : (x == ("__debug__" : Str)) = false) (he : starEach (e :: es) X.env = (false, eval e X.env) :: starEach es X.env) (hpl : (backTo pos (starEach es X.env)).any (·.1) = false) :
    PE X (.Call (.Name x p) (e :: es) [] pos) (tMakeS C sp E t) := by
  refine ⟨fun pins s σ H Q I h => ?_⟩
  refine wpAny_Call_Name_kw (ld_glob I hg hm ?_ hdb)
  refine PySem.W.callWith_K (h₀ := X.base) I.ok.mod.kin M.kp (thn (ha.run pos pins s σ H _ I h) fun us s1 ⟨vs, H1, I1, r, q⟩ => ⟨I1.kIn, ?_⟩) he hpl
  exact run_makeS M F hr hb (hx σ) I1 r q
theorem pe_makeS0 {CX : CXT} {k : Nat} {f C : Addr} {fd : FuncData} {ps : List Str} {sp : Sp} {E : L2.St → XK} {x : Str} {p pos : Pos} (M : Mk X.K C f) (F : FnOk X.prog X.w X.K X.mg X.base CX k f fd ps sp) (hr : Room (k + 1) X.A) (hg : Gl X x) (hm : X.mg x = some (.ref C)) (hb : Binds X.K fd ps []) (hx : ∀ σ, PassesAt CX X σ (E σ))
    (hdb : (x == ("__debug__" : Str)) = false) : PE X (.Call (.Name x p) [] [] pos) (tMakeS C sp E tNil) := by
  refine ⟨fun pins s σ H Q I h => ?_⟩
  refine wpAny_Call_Name_kw (ld_glob I hg hm ?_ hdb)
  exact PySem.W.callWith_K0 I.kIn M.kp (run_makeS (us := []) M F hr hb (hx σ) I .nil h)
/-- a new instance: the store behind it -/
theorem make_sp {m k f : Nat} {fn : Fn} (hf : tab.fns[f]? = some fn) (hi : tab.inits.lookup k = some f) {α : List Addr} {H : Hp} {S : Store} {xs : List PV} {ws : List V} {Q : VK} {σ : L2.St} (hr : Rep (gx X cl fa) α S H) (vs : RVs X.K α H xs ws)
    (q : Wp (gx X cl fa) (makeC (cxF tab (m + 1)) k xs S) α H (PV1 (gx X cl fa) Q) (EW (gx X cl fa) W σ)) (x dx : Addr) (hx : H x = none) (hdx : H dx = none) (hne : dx ≠ x) :
    spOf (gx X cl fa) tab m f fn.np (.ref x :: ws) (upd (upd H dx (.own x)) x (.ins (cl k) dx [])) (fun v H2 => v = .non ∧ Q (.ref x) H2) (WE W σ) := by
  unfold makeC at q
  rw [show (cxF tab (m + 1)).T = tab from rfl, hi] at q
  have q : Wp (gx X cl fa) ((callF tab m f (.ref S.length :: xs) (S ++ [.ins k []])).bind fun v S' => match v with
    | .non => .ok (.ref S.length) S'
    | _ => .stuck) α H (PV1 (gx X cl fa) Q) (EW (gx X cl fa) W σ) := q
  have h1 := hr.new hdx (.own x)
  have e1 := Ext.new (α := α) hdx (.own x)
  have hx1 : upd H dx (.own x) x = none := by rw [upd_ne (Ne.symm hne)]; exact hx
  have h2 := h1.push hx1 (o := .ins (cl k) dx []) (mo := .ins k []) ⟨dx, [], upd_same, rfl⟩
  have e2 := e1.trans (Ext.push h1 hx1 (.ins (cl k) dx []))
  have hat : (α ++ [x])[S.length]? = some x := by rw [← hr.len]; simp
  refine sp_of (W := W) (xs := .ref S.length :: xs) (ws := .ref x :: ws) hf h2 ⟨.ref x, ws, rfl, ⟨x, hat, rfl⟩, vs.ext e2⟩ ?_
  refine (q.ext e2).bind.imp1 fun α3 H3 v S3 e3 r3 q3 w3 v3 => ?_
  cases v <;> first
    | exact q3.elim
    | (cases v3; exact ⟨rfl, q3.ok r3 _ ⟨x, e3.at hat, rfl⟩⟩)
theorem s_mk0 (C : CxOk T tab cl fa pss n X W) {x : Str} {k : Nat} {p pos : Pos} (hk : T.cls.lookup x = some k) (hg : Gl X x) (hd : (x == ("__debug__" : Str)) = false) :
    PE X (.Call (.Name x p) [] [] pos) (LE (gx X cl fa) W (evalE (cxF tab n) (.mk k .nil))) := by
  obtain ⟨h1, f, h2⟩ := C.nm.cls x k hk
  obtain ⟨M, h3⟩ := C.nm.init k f h2
  cases n with
  | zero => exact ⟨fun pins s σ H Q I ⟨α, S, ρ, hr, he, hw⟩ => hw.elim⟩
  | succ m =>
    obtain ⟨k1, fd, F, B⟩ := C.ini m rfl f tab.fns[f] (by simp [h3])
    exact pe_mono (pe_makeS0 (E := WE W) M F C.room hg h1 B (fun σ => passAt C.tk σ) hd) fun σ H Q ⟨α, S, ρ, hr, he, hw⟩ x dx hx hdx hne => make_sp (xs := []) (ws := []) (by simp [h3]) h2 hr rfl hw x dx hx hdx hne
theorem s_mk (C : CxOk T tab cl fa pss n X W) {x : Str} {k : Nat} {e : Expr} {es : List Expr} {ces : CEs} {p pos : Pos} (hk : T.cls.lookup x = some k) (hg : Gl X x) (hd : (x == ("__debug__" : Str)) = false) (ha : PA X (e :: es) (LA (gx X cl fa) W (evalEs (cxF tab n) ces)))
    (hs : isStar e = false) (hs2 : (backTo pos (starEach es X.env)).any (·.1) = false) : PE X (.Call (.Name x p) (e :: es) [] pos) (LE (gx X cl fa) W (evalE (cxF tab n) (.mk k ces))) := by
  obtain ⟨h1, f, h2⟩ := C.nm.cls x k hk
  obtain ⟨M, h3⟩ := C.nm.init k f h2
  cases n with
  | zero => exact ⟨fun pins s σ H Q I ⟨α, S, ρ, hr, he, hw⟩ => hw.elim⟩
  | succ m =>
    obtain ⟨k1, fd, F, B⟩ := C.ini m rfl f tab.fns[f] (by simp [h3])
    refine pe_mono (pe_makeS (E := WE W) M F C.room hg h1 B (fun σ => passAt C.tk σ) ha hd (star_cons hs) hs2) fun σ H Q ⟨α, S, ρ, hr, he, hw⟩ => ?_
    have hw : Wp (gx X cl fa) ((evalEs (cxF tab (m + 1)) ces ρ S).bind fun xs S => makeC (cxF tab (m + 1)) k xs S) α H (PV1 (gx X cl fa) Q) (EW (gx X cl fa) W σ) := hw
    exact ⟨α, S, ρ, hr, he, hw.bind.imp1 fun α1 H1 xs S1 e1 r1 q1 ws vs x dx hx hdx hne => make_sp (by simp [h3]) h2 r1 vs q1 x dx hx hdx hne⟩
end
end L3
set_option maxRecDepth 100000
/-! L3Snd4: every compiled expression; statements. -/
namespace L3
open PySem PySem.Spec PyProof.Rows L2
section
variable {X : Cx} {T : GT} {tab : Tab} {cl fa : Nat → Addr} {pss : Nat → List Str} {n : Nat} {W : WX} {c : Sc}
theorem CxOk.blk (C : CxOk T tab cl fa pss n X W) (s : Shared) (H : Hp) (scope : Scope) (cenv : PySem.Env) (fp : List Addr) : CxOk T tab cl fa pss n (X.blk s H scope cenv fp) (fun _ _ _ _ => False) :=
  ⟨C.calm, C.nd, C.room, C.nm, C.fns, C.ini, takes0, PassesOwn.never⟩
theorem ScOk.blk (sc : ScOk c X) (s : Shared) (H : Hp) (scope : Scope) (C : Addr) (cl2 : List (Str × Addr)) (fp : List Addr) : ScOk (innerSc c scope) (X.blk s H scope (compEnvC scope cl2 C X.env) fp) := by
  refine ⟨?_, sc.N, rfl, fun h => by cases h⟩
  show relabel scope X.env = relS scope c.sc
  rw [← sc.sc]
  rfl
theorem s_truth {e : Expr} {f : Env → Store → R PV} (he : PE X e (LE (gx X cl fa) W f)) (hw : ∀ whole, isTrue e X.env whole = (do let v ← whole; standAt e.pos; holding [v] (PySem.truthy v))) :
    PT X e (LTt (gx X cl fa) W fun ρ S => (f ρ S).bind fun x S => ofO (L3.truthy S x) S) := pt_mono (pt_truth he hw) fun σ H Q hh => LTt_of hh
theorem testE_not (cx : Cxi) (a : CE) : testE cx (.nt a) = fun ρ S => (testE cx a ρ S).bind fun k S => .ok (!k) S := by
  funext ρ S
  unfold testE
  simp only [evalE]
  cases evalE cx a ρ S with
  | ok x S1 =>
    simp only [R.bind]
    cases L3.truthy S1 x <;> rfl
  | exc x S1 => rfl
  | stuck => rfl
theorem testE_and (cx : Cxi) (a b : CE) : testE cx (.and a b) = fun ρ S => (testE cx a ρ S).bind fun k S => if k then testE cx b ρ S else .ok false S := by
  funext ρ S
  unfold testE
  simp only [evalE]
  cases evalE cx a ρ S with
  | ok x S1 =>
    simp only [R.bind]
    cases h : L3.truthy S1 x with
    | none => rfl
    | some k => cases k <;> simp [ofO, R.bind, h]
  | exc x S1 => rfl
  | stuck => rfl
theorem testE_or (cx : Cxi) (a b : CE) : testE cx (.or a b) = fun ρ S => (testE cx a ρ S).bind fun k S => if k then .ok true S else testE cx b ρ S := by
  funext ρ S
  unfold testE
  simp only [evalE]
  cases evalE cx a ρ S with
  | ok x S1 =>
    simp only [R.bind]
    cases h : L3.truthy S1 x with
    | none => rfl
    | some k => cases k <;> simp [ofO, R.bind, h]
  | exc x S1 => rfl
  | stuck => rfl
theorem testE_ife (cx : Cxi) (c a b : CE) : testE cx (.ife c a b) = fun ρ S => (testE cx c ρ S).bind fun k S => if k then testE cx a ρ S else testE cx b ρ S := by
  funext ρ S
  unfold testE
  simp only [evalE]
  cases evalE cx c ρ S with
  | ok x S1 =>
    simp only [R.bind]
    cases h : L3.truthy S1 x with
    | none => rfl
    | some k => cases k <;> simp [ofO, R.bind]
  | exc x S1 => rfl
  | stuck => rfl
theorem t_bind {f : Env → Store → R Bool} {h : Bool → Env → Store → R Bool} {σ : L2.St} {H : Hp} {Q : Bool → Hp → Prop} (hh : LTt (gx X cl fa) W (fun ρ S => (f ρ S).bind fun k S => h k ρ S) σ H Q) :
    LTt (gx X cl fa) W f σ H fun k H1 => LTt (gx X cl fa) W (h k) σ H1 Q := by
  obtain ⟨α, S, ρ, hr, he, hw⟩ := hh
  exact ⟨α, S, ρ, hr, he, hw.bind.imp1 fun α1 H1 k S1 e1 r1 q1 => ⟨α1, S1, ρ, r1, he.ext e1, q1⟩⟩
theorem t_ok {b : Bool} {σ : L2.St} {H : Hp} {Q : Bool → Hp → Prop} (hh : LTt (gx X cl fa) W (fun _ S => .ok b S) σ H Q) : Q b H := by
  obtain ⟨α, S, ρ, hr, he, hw⟩ := hh
  exact hw.ok hr
theorem pt_ifE {t a b : Expr} {pos : Pos} {tt ta tb : TT} (ht : PT X t tt) (ha : PT X a ta) (hb : PT X b tb) : PT X (.IfExp t a b pos) (fun σ H Q => tt σ H fun k H1 => if k = true then ta σ H1 Q else tb σ H1 Q) := by
  refine ⟨fun pins s σ H Q I h => ?_⟩
  rw [arm_isTrue_IfExp]
  refine wpAny_bind (thn (ht.run pins s σ H _ I h) fun k s1 ⟨H1, I1, q1⟩ => ?_)
  cases k with
  | true => exact ha.run pins s1 σ H1 Q I1 q1
  | false => exact hb.run pins s1 σ H1 Q I1 q1

/-- what is to be shown at a depth of the compiler -/
structure SndE (T : GT) (tab : Tab) (cl fa : Nat → Addr) (pss : Nat → List Str) (n d : Nat) : Prop where
  e : ∀ {c : Sc} {e : Expr} {ce : CE} {X : Cx} {W : WX}, compE T d c e = some ce → CxOk T tab cl fa pss n X W → ScOk c X → PE X e (LE (gx X cl fa) W (evalE (cxF tab n) ce))
  t : ∀ {c : Sc} {e : Expr} {ce : CE} {X : Cx} {W : WX}, compE T d c e = some ce → CxOk T tab cl fa pss n X W → ScOk c X → PT X e (LTt (gx X cl fa) W (testE (cxF tab n) ce))
  w : ∀ {c : Sc} {op : BoolOp} {vs : List Expr} {pos : Pos} {ce : CE} {X : Cx} {W : WX}, compE T d c (.BoolOp op vs pos) = some ce → CxOk T tab cl fa pss n X W → ScOk c X → PW X (.BoolOp op vs pos) (LTt (gx X cl fa) W (testE (cxF tab n) ce))
  g : ∀ {c : Sc} {e : Expr} {ct : CT} {X : Cx} {W : WX}, compT T d c e = some ct → CxOk T tab cl fa pss n X W → ScOk c X → PG X e (LG (gx X cl fa) ct.slots (assignE (cxF tab n) ct))
  gs : ∀ {c : Sc} {es : List Expr} {ct : CTs} {X : Cx} {W : WX}, compTs T d c es = some ct → CxOk T tab cl fa pss n X W → ScOk c X → PGs X es (LGs (gx X cl fa) ct.slots (assignEs (cxF tab n) ct)) ∧ (assignEach es X.env).length = es.length ∧
    (assignEach es X.env).findIdx? (·.1) = none ∧ ct.len = es.length
  i : ∀ {c : Sc} {e : Expr} {ci : CI} {X : Cx} {W : WX}, compI T d c e = some ci → CxOk T tab cl fa pss n X W → ScOk c X → ∀ tg, PI X tg e (LIt (gx X cl fa) W (iterE (cxF tab n) ci))
theorem slots_name {T : GT} {d : Nat} {c c' : Sc} {x : Str} {pos : Pos} {ct : CT} {i : Nat} (hN : c'.N = c.N) (hi : ixOfN x c.N = some i) (h2 : compT T d c' (.Name x pos) = some ct) : ct.slots = [i] := by
  cases d with
  | zero => cases h2
  | succ d =>
    have h2 : (if locB c' x then (ixOfN x c'.N).map CT.name else none) = some ct := h2
    split at h2
    · rw [hN, hi] at h2
      cases h2
      rfl
    · cases h2
theorem slots_owns {T : GT} {c c' : Sc} (hN : c'.N = c.N) : ∀ {es : List Expr} {d : Nat} {cts : CTs} {own : List (Str × Nat)}, ownsOf c.N es = some own → compTs T d c' es = some cts → ∀ i ∈ cts.slots, i ∈ own.map (·.2)
  | [], d, cts, own, h1, h2 => by
    cases d with
    | zero => cases h2
    | succ d =>
      cases h2
      intro i hi
      cases hi
  | e :: es, d, cts, own, h1, h2 => by
    cases d with
    | zero => cases h2
    | succ d =>
      have h2 : (if isStar e then none else match compT T d c' e, compTs T d c' es with
        | some t, some ts => some (CTs.cons t ts)
        | _, _ => none) = some cts := h2
      cases e with
      | Name x pos =>
        have h1 : (match ixOfN x c.N, ownsOf c.N es with
          | some i, some r => some ((x, i) :: r)
          | _, _ => none) = some own := h1
        split at h1
        · rename_i j r hj hr
          cases h1
          split at h2
          · cases h2
          · split at h2
            · rename_i t ts ht hts
              cases h2
              intro i hi
              have hi : i ∈ t.slots ++ ts.slots := hi
              rcases List.mem_append.mp hi with z | z
              · rw [slots_name hN hj ht] at z
                have : i = j := by simpa using z
                simp [this]
              · have := slots_owns hN hr hts i z
                simp only [List.map_cons, List.mem_cons]
                exact .inr this
            · cases h2
        · cases h1
      | _ => cases h1
theorem slots_own {T : GT} {d : Nat} {c c' : Sc} {tg : Expr} {ct : CT} {own : List (Str × Nat)} (hN : c'.N = c.N) (h1 : ownOf c.N tg = some own) (h2 : compT T d c' tg = some ct) : ∀ i ∈ ct.slots, i ∈ own.map (·.2) := by
  cases tg with
  | Name x pos =>
    have h1 : (ixOfN x c.N).map (fun i => [(x, i)]) = some own := h1
    simp only [Option.map_eq_some_iff] at h1
    obtain ⟨i, hi, rfl⟩ := h1
    rw [slots_name hN hi h2]
    simp
  | Tuple es k pos =>
    cases d with
    | zero => cases h2
    | succ d =>
      have h3 : (compTs T d c' es).map CT.tup = some ct := h2
      simp only [Option.map_eq_some_iff] at h3
      obtain ⟨cts, h4, rfl⟩ := h3
      exact slots_owns hN h1 h4
  | _ => cases h1
theorem noneof {α : Type} {x : α} {P : Prop} (h : (none : Option α) = some x) : P := by cases h
theorem PW_mono {e : Expr} {t t' : TT} (h : PW X e t) (m : ∀ σ H Q, t' σ H Q → t σ H Q) : PW X e t' := pw_mono h m
theorem ifs_parts {d : Nat} (ih : SndE T tab cl fa pss n d) {c : Sc} {ifs : List Expr} {scope : Scope} {k : CE} {X : Cx} {W : WX} (h : compIfs (compE T d (innerSc c scope)) ifs = some k) (C : CxOk T tab cl fa pss n X W) (sc : ScOk c X) :
    ∃ tt : TT, (∀ (s : Shared) (H : Hp) (Cc : Addr) (cl2 : List (Str × Addr)) (fp : List Addr), PTs (X.blk s H scope (compEnvC scope cl2 Cc X.env) fp) ifs tt) ∧
      ∀ σ H Q, LTt (gx X cl fa) (fun _ _ _ _ => False) (testE (cxF tab n) k) σ H Q → tt σ H Q := by
  match ifs, h with
  | [], h =>
    cases h
    exact ⟨tYes, fun s H Cc cl2 fp => pts_nil, fun σ H Q ⟨α, S, ρ, hr, he, hw⟩ => (show Wp (gx X cl fa) (.ok true S) α H (fun _ H' b _ => Q b H') _ from hw).ok hr⟩
  | [f], h => exact ⟨_, fun s H Cc cl2 fp => pts_one (ih.t h (C.blk s H scope _ fp) (sc.blk s H scope Cc cl2 fp)), fun σ H Q hh => hh⟩
  | _ :: _ :: _, h => cases h
theorem it_case {d : Nat} (ih : SndE T tab cl fa pss n d) {c : Sc} {tg e : Expr} {ci : CI} {X : Cx} {W : WX} (h : compIt c (compE T d c) (compI T d c) tg e = some ci) (C : CxOk T tab cl fa pss n X W) (sc : ScOk c X) :
    PI X tg e (LIt (gx X cl fa) W (iterE (cxF tab n) ci)) := by
  unfold compIt at h
  split at h
  · rename_i i h1
    cases h
    unfold compEn at h1
    split at h1
    · rename_i es k tp x p a pos
      split at h1
      · rename_i hc
        simp only [Bool.and_eq_true, decide_eq_true_eq, Bool.not_eq_true'] at hc
        obtain ⟨ex, ⟨hp, hg⟩, hst⟩ := hc
        subst ex
        simp only [Option.map_eq_some_iff] at h1
        obtain ⟨ce, h2, rfl⟩ := h1
        exact s_enum C C.nm.enum (glbB_ok sc hg) hst (ih.e h2 C sc)
      · cases h1
    · rename_i nm tp x p a b pos
      split at h1
      · rename_i hc
        simp only [Bool.and_eq_true, decide_eq_true_eq, Bool.not_eq_true'] at hc
        obtain ⟨ex, ⟨hp, hg⟩, hst, hst2⟩ := hc
        subst ex
        split at h1
        · rename_i u v h2 h3
          cases h1
          exact s_zipN C (glbB_ok sc hg) hst hst2 (ih.e h2 C sc) (ih.e h3 C sc)
        · cases h1
      · cases h1
    · rename_i tg x p y p2 a q pos
      split at h1
      · rename_i hc
        simp only [Bool.and_eq_true, decide_eq_true_eq, Bool.not_eq_true'] at hc
        obtain ⟨ex, ey, ⟨hp, hg⟩, ⟨hp2, hg2⟩, hst⟩ := hc
        subst ex ey
        simp only [Option.map_eq_some_iff] at h1
        obtain ⟨ce, h2, rfl⟩ := h1
        exact s_rvd C (glbB_ok sc hg) (glbB_ok sc hg2) hst (ih.e h2 C sc)
      · cases h1
    · cases h1
  · exact ih.i h C sc tg
theorem dm_case {d : Nat} (ih : SndE T tab cl fa pss n d) {c : Sc} {o : Expr} {m : Str} {apos pos : Pos} {args : List Expr} {ce : CE} {X : Cx} {W : WX} (h : compDm (compE T d c) o m apos pos args = some ce) (C : CxOk T tab cl fa pss n X W) (sc : ScOk c X) :
    PE X (.Call (.Attribute o m apos) args [] pos) (LE (gx X cl fa) W (evalE (cxF tab n) ce)) := by
  unfold compDm at h
  split at h
  · cases h
  · rename_i hc
    have hc : noSup o = true ∧ (apos.endLine == pos.line) = true := by simpa [Bool.or_eq_true, not_or] using hc
    split at h
    · rename_i a
      split at h
      · cases h
      · rename_i hst
        have hst : isStar a = false := by simpa using hst
        split at h
        · rename_i x y h1 h2
          split at h
          · rename_i em
            subst em
            cases h
            exact s_dget1 C (ih.e h1 C sc) (ih.e h2 C sc) hc.1 hst hc.2
          · cases h
        · cases h
    · rename_i a b
      split at h
      · cases h
      · rename_i hst
        have hst : isStar a = false ∧ isStar b = false := by simpa [Bool.or_eq_true, not_or] using hst
        split at h
        · rename_i x y z h1 h2 h3
          split at h
          · rename_i em
            subst em
            cases h
            exact s_dget2 C (ih.e h1 C sc) (ih.e h2 C sc) (ih.e h3 C sc) hc.1 hst.1 hst.2 hc.2
          · split at h
            · rename_i em
              subst em
              cases h
              exact s_dset C (ih.e h1 C sc) (ih.e h2 C sc) (ih.e h3 C sc) hc.1 hst.1 hst.2 hc.2
            · cases h
        · cases h
    · cases h
theorem lzip_case {d : Nat} (ih : SndE T tab cl fa pss n d) {c : Sc} {x : Str} {p pos : Pos} {args : List Expr} {ce : CE} {X : Cx} {W : WX} (h : compLzip c (compE T d c) (.Name x p) args = some ce) (C : CxOk T tab cl fa pss n X W) (sc : ScOk c X) :
    PE X (.Call (.Name x p) args [] pos) (LE (gx X cl fa) W (evalE (cxF tab n) ce)) := by
  unfold compLzip at h
  split at h
  · rename_i x' p' y p2 a b q e1
    split at h
    · rename_i hc
      simp only [Bool.and_eq_true, decide_eq_true_eq, Bool.not_eq_true'] at hc
      obtain ⟨ex, ey, ⟨h1, h2⟩, ⟨h3, h4⟩, h5, h6⟩ := hc
      cases e1
      subst ex ey
      split at h
      · rename_i u v h7 h8
        cases h
        exact s_lzip C (ih.e h7 C sc) (ih.e h8 C sc) h5 h6 (glbB_ok sc h2) (glbB_ok sc h4)
      · cases h
    · cases h
  · cases h
theorem lrng_case {d : Nat} (ih : SndE T tab cl fa pss n d) {c : Sc} {x : Str} {p pos : Pos} {args : List Expr} {ce : CE} {X : Cx} {W : WX} (h : compLrng c (compE T d c) (.Name x p) args = some ce) (C : CxOk T tab cl fa pss n X W) (sc : ScOk c X) :
    PE X (.Call (.Name x p) args [] pos) (LE (gx X cl fa) W (evalE (cxF tab n) ce)) := by
  unfold compLrng at h
  split at h
  · rename_i x' p' y p2 a b q e1
    split at h
    · rename_i hc
      simp only [Bool.and_eq_true, decide_eq_true_eq, Bool.not_eq_true'] at hc
      obtain ⟨ex, ey, ⟨h1, h2⟩, ⟨h3, h4⟩, h5, h6⟩ := hc
      cases e1
      subst ex ey
      split at h
      · rename_i u v h7 h8
        cases h
        exact s_lrng C (ih.e h7 C sc) (ih.e h8 C sc) h5 h6 (glbB_ok sc h2) (glbB_ok sc h4)
      · cases h
    · cases h
  · cases h
theorem kd_case {d : Nat} (ih : SndE T tab cl fa pss n d) {c : Sc} {a b : Expr} {pos : Pos} {ce : CE} {X : Cx} {W : WX} (h : compKd T c (compE T d c) a b = some ce) (C : CxOk T tab cl fa pss n X W) (sc : ScOk c X) :
    PE X (.Subscript a b pos) (LE (gx X cl fa) W (evalE (cxF tab n) ce)) := by
  unfold compKd at h
  split at h
  · rename_i x p
    split at h
    · rename_i k hk
      split at h
      · rename_i hc
        simp only [Bool.and_eq_true, Bool.not_eq_true'] at hc
        simp only [Option.map_eq_some_iff] at h
        obtain ⟨cb, h1, rfl⟩ := h
        exact s_kdi C sc hk hc.1.1 hc.1.2 hc.2 (ih.e h1 C sc)
      · cases h
    · cases h
  · cases h
theorem mth_case {d : Nat} (ih : SndE T tab cl fa pss n d) {c : Sc} {o : Expr} {m : Str} {apos pos : Pos} {args : List Expr} {ce : CE} {X : Cx} {W : WX} (h : compMth T (compE T d c) o m apos pos args = some ce) (C : CxOk T tab cl fa pss n X W) (sc : ScOk c X) :
    PE X (.Call (.Attribute o m apos) args [] pos) (LE (gx X cl fa) W (evalE (cxF tab n) ce)) := by
  have lst : ∀ {es : List Expr} {ces : CEs}, listM (compE T d c) es = some ces → PA X es (LA (gx X cl fa) W (evalEs (cxF tab n) ces)) := fun h => s_list (fun e ce q => ih.e q C sc) h
  unfold compMth at h
  split at h
  · cases h
  · rename_i hc
    have hc : noSup o = true ∧ (apos.endLine == pos.line) = true ∧ args.length < 20 ∧ (((∃ lm, lmOf m.cps.toList = some lm) ∨ ∃ sm, smOf m.cps.toList = some sm) ∨ m.cps.toList ∈ T.ms) := by
      simp only [Bool.or_eq_true, Bool.not_eq_true', decide_eq_false_iff_not, not_or, Bool.not_eq_false, Bool.not_eq_true] at hc
      obtain ⟨⟨⟨⟨h1, h2⟩, h3⟩, h4⟩, h5⟩ := hc
      refine ⟨h1, h2, by simpa using h3, ?_⟩
      simp only [Bool.or_eq_true, decide_eq_true_eq, Option.isSome_iff_exists] at h5
      exact h5
    obtain ⟨h1, h2, h3, h5⟩ := hc
    have hm : mOk tab m.cps.toList := h5.elim (fun z => z.elim .inl fun z => .inr (.inl z)) fun z => .inr (.inr (C.nm.ms _ z))
    split at h
    · rename_i x xs a1 a2
      cases h
      cases args with
      | nil =>
        cases a2
        exact s_mth0 C (ih.e a1 C sc) h1 h2 hm
      | cons e es => exact s_mth C (ih.e a1 C sc) (lst a2) h1 a2 h3 h2 hm
    · cases h
theorem lens_case {d : Nat} (ih : SndE T tab cl fa pss n d) {c : Sc} {x : Str} {p pos : Pos} {args : List Expr} {ce : CE} {X : Cx} {W : WX} (h : compLens c (compE T d c) (.Name x p) args = some ce) (C : CxOk T tab cl fa pss n X W) (sc : ScOk c X) :
    PE X (.Call (.Name x p) args [] pos) (LE (gx X cl fa) W (evalE (cxF tab n) ce)) := by
  unfold compLens at h
  split at h
  · rename_i x' p' y p2 a q e1 
    split at h
    · rename_i hc
      simp only [Bool.and_eq_true, decide_eq_true_eq, Bool.not_eq_true'] at hc
      obtain ⟨ex, ey, ⟨h1, h2⟩, ⟨h3, h4⟩, h5⟩ := hc
      cases e1
      subst ex ey
      simp only [Option.map_eq_some_iff] at h
      obtain ⟨z, h6, rfl⟩ := h
      exact s_lens C (ih.e h6 C sc) h5 (glbB_ok sc h2) (glbB_ok sc h4)
    · cases h
  · cases h
theorem lc_parts {d : Nat} (ih : SndE T tab cl fa pss n d) {c : Sc} {elt : Expr} {gens : List Comprehension} {scope : Scope} {ce : CE} {X : Cx} {W : WX} (h : compLc c (compIt c (compE T d c) (compI T d c)) (compT T d) (compE T d) elt scope gens = some ce) (C : CxOk T tab cl fa pss n X W) (sc : ScOk c X) :
    ∃ (tg iter : Expr) (ifs : List Expr) (own : List (Str × Nat)) (wi : TI) (gg : TG) (tt : TT) (te : TE), gens = [⟨tg, iter, ifs, 0⟩] ∧ PI X tg iter wi ∧ BlkOk X.N X.env.scope scope own ∧
      (∀ (s : Shared) (H : Hp) (Cc : Addr) (cl2 : List (Str × Addr)) (fp : List Addr), PG (X.blk s H scope (compEnvC scope cl2 Cc X.env) fp) tg gg) ∧
      (∀ (s : Shared) (H : Hp) (Cc : Addr) (cl2 : List (Str × Addr)) (fp : List Addr), PTs (X.blk s H scope (compEnvC scope cl2 Cc X.env) fp) ifs tt) ∧
      (∀ (s : Shared) (H : Hp) (Cc : Addr) (cl2 : List (Str × Addr)) (fp : List Addr), PE (X.blk s H scope (compEnvC scope cl2 Cc X.env) fp) elt te) ∧
      (∀ x, foldedSetIterable iter X.env x = pure x) ∧
      ∀ σ H Q, LE (gx X cl fa) W (evalE (cxF tab n) ce) σ H Q → tLc wi gg tt te (own.map (·.2)) σ H Q := by
  unfold compLc at h
  split at h
  · rename_i tg iter ifs
    split at h
    · cases h
    · rename_i own ho
      split at h
      · cases h
      · rename_i hb
        have hb : blkC c.N c.sc scope own = true ∧ isSet iter = false := by simpa [Bool.or_eq_true, not_or] using hb
        have ok : BlkOk X.N X.env.scope scope own := by
          rw [sc.N, sc.sc]
          exact blkOk_by hb.1
        have hs : ∀ x, foldedSetIterable iter X.env x = pure x := by
          intro x
          have := hb.2
          cases iter <;> first
            | rfl
            | cases this
        split at h
        · rename_i i t x k h1 h2 h3 h4
          cases h
          obtain ⟨tt, q1, q2⟩ := ifs_parts ih h4 C sc
          exact ⟨tg, iter, ifs, own, _, _, tt, _, rfl, it_case ih h1 C sc, ok, fun s H Cc cl2 fp => ih.g h2 (C.blk s H scope _ fp) (sc.blk s H scope Cc cl2 fp), q1, fun s H Cc cl2 fp => ih.e h3 (C.blk s H scope _ fp) (sc.blk s H scope Cc cl2 fp), hs,
            fun σ H Q hh => lc_read q2 (slots_own (c := c) (c' := innerSc c scope) rfl ho h2) hh⟩
        · cases h
  · cases h
theorem lc_case {d : Nat} (ih : SndE T tab cl fa pss n d) {c : Sc} {elt : Expr} {gens : List Comprehension} {scope : Scope} {pos : Pos} {ce : CE} {X : Cx} {W : WX} (h : compLc c (compIt c (compE T d c) (compI T d c)) (compT T d) (compE T d) elt scope gens = some ce) (C : CxOk T tab cl fa pss n X W) (sc : ScOk c X) :
    PE X (.ListComp elt gens scope pos) (LE (gx X cl fa) W (evalE (cxF tab n) ce)) := by
  obtain ⟨tg, iter, ifs, own, wi, gg, tt, te, rfl, p1, p2, p3, p4, p5, p6, p7⟩ := lc_parts ih h C sc
  exact pe_mono (pe_lc C.calm C.nd p1 p2 p3 p4 p5 p6) p7
theorem cmp_case {d : Nat} (ih : SndE T tab cl fa pss n d) {c : Sc} {a : Expr} {ops : List CmpOp} {bs : List Expr} {pos : Pos} {ce : CE} {X : Cx} {W : WX} (h : compCmp (compE T d c) a ops bs = some ce) (C : CxOk T tab cl fa pss n X W) (sc : ScOk c X) :
    PE X (.Compare a ops bs pos) (LE (gx X cl fa) W (evalE (cxF tab n) ce)) ∧ PT X (.Compare a ops bs pos) (LTt (gx X cl fa) W (testE (cxF tab n) ce)) := by
  unfold compCmp at h
  split at h
  · split at h
    · cases h
    · rename_i hs
      split at h
      · rename_i x o y h1 h2 h3
        cases h
        rw [copC_ok h2]
        exact ⟨s_cmp C (ih.e h1 C sc) (ih.e h3 C sc) (by simpa using hs), t_cmp C (ih.e h1 C sc) (ih.e h3 C sc) (by simpa using hs)⟩
      · cases h
  · split at h
    · cases h
    · rename_i hs
      split at h
      · rename_i x p y q z h1 h2 h3 h4 h5
        cases h
        rw [copC_ok h2, copC_ok h4]
        exact ⟨s_chn C (ih.e h1 C sc) (ih.e h3 C sc) (ih.e h5 C sc) (by simpa using hs), t_chn C (ih.e h1 C sc) (ih.e h3 C sc) (ih.e h5 C sc) (by simpa using hs)⟩
      · cases h
  · cases h
theorem sub_case {d : Nat} (ih : SndE T tab cl fa pss n d) {c : Sc} {a b : Expr} {pos : Pos} {ce : CE} {X : Cx} {W : WX} (h : compSub (compE T d c) a b = some ce) (C : CxOk T tab cl fa pss n X W) (sc : ScOk c X) :
    PE X (.Subscript a b pos) (LE (gx X cl fa) W (evalE (cxF tab n) ce)) := by
  unfold compSub at h
  split at h
  · simp only [Option.map_eq_some_iff] at h
    obtain ⟨x, h1, rfl⟩ := h
    exact s_rev (ih.e h1 C sc)
  · split at h
    · rename_i x l u h1 h2 h3
      cases h
      obtain ⟨tl, p1, p2⟩ := s_opt (W := W) (fun e ce q => ih.e q C sc) h2
      obtain ⟨th, q1, q2⟩ := s_opt (W := W) (fun e ce q => ih.e q C sc) h3
      exact s_slc (ih.e h1 C sc) p1 p2 q1 q2
    · cases h
  · split at h
    · cases h
    · rename_i hs
      split at h
      · rename_i x y h1 h2
        cases h
        exact s_idx C (ih.e h1 C sc) (ih.e h2 C sc) (by simpa using hs)
      · cases h
theorem isi_case {d : Nat} (ih : SndE T tab cl fa pss n d) {c : Sc} {args : List Expr} {p pos : Pos} {ce : CE} {X : Cx} {W : WX} (h : compIsi c (compE T d c) args = some ce) (hg : Gl X "isinstance") (C : CxOk T tab cl fa pss n X W) (sc : ScOk c X) :
    PE X (.Call (.Name "isinstance" p) args [] pos) (LE (gx X cl fa) W (evalE (cxF tab n) ce)) := by
  unfold compIsi at h
  split at h
  · rename_i a t q
    split at h
    · cases h
    · rename_i hq
      have hq : isStar a = false ∧ plainN t = true ∧ glbB c.sc t = true := by simpa [Bool.or_eq_true, not_or] using hq
      split at h
      · rename_i z ty h1 h2
        cases h
        have et : t = tyN ty := by
          unfold tyOf at h2
          repeat (first
            | (split at h2; · (rename_i e; cases h2; exact e))
            | (cases h2; done))
        subst et
        exact s_isi C (ih.e h1 C sc) hq.1 hg (glbB_ok sc hq.2.2) (by cases ty <;> decide +kernel) (plainN_ok hq.2.1).1
      · cases h
  · cases h
theorem call_case {d : Nat} (ih : SndE T tab cl fa pss n d) {c : Sc} {x : Str} {args : List Expr} {p pos : Pos} {ce : CE} {X : Cx} {W : WX} (h : compCall T c (compE T d c) x args = some ce) (C : CxOk T tab cl fa pss n X W) (sc : ScOk c X) :
    PE X (.Call (.Name x p) args [] pos) (LE (gx X cl fa) W (evalE (cxF tab n) ce)) := by
  have lst : ∀ {es : List Expr} {ces : CEs}, listM (compE T d c) es = some ces → PA X es (LA (gx X cl fa) W (evalEs (cxF tab n) ces)) := fun h => s_list (fun e ce q => ih.e q C sc) h
  unfold compCall at h
  split at h
  · cases h
  · rename_i hp
    have hp : plainN x = true ∧ glbB c.sc x = true := by simpa using hp
    have hd := (plainN_ok hp.1).1
    have hg := glbB_ok sc hp.2
    split at h
    · rename_i hx
      subst hx
      exact isi_case ih h hg C sc
    · split at h
      · rename_i f hf
        simp only [Option.map_eq_some_iff] at h
        obtain ⟨ces, h1, rfl⟩ := h
        cases args with
        | nil =>
          cases h1
          exact s_cal0 C hf hg hd
        | cons e es =>
          obtain ⟨c1, cs, a1, a2, rfl, a4⟩ := listM_cons h1
          exact s_cal C hf hg hd (lst h1) a4 (listM_star X.env pos a2)
      · split at h
        · rename_i k hk
          simp only [Option.map_eq_some_iff] at h
          obtain ⟨ces, h1, rfl⟩ := h
          cases args with
          | nil =>
            cases h1
            exact s_mk0 C hk hg hd
          | cons e es =>
            obtain ⟨c1, cs, a1, a2, rfl, a4⟩ := listM_cons h1
            exact s_mk C hk hg hd (lst h1) a4 (listM_star X.env pos a2)
        split at h
        · rename_i b hb
          cases args with
          | nil => cases h
          | cons e es =>
            have h : (listM (compE T d c) (e :: es)).map (CE.bf b) = some ce := h
            simp only [Option.map_eq_some_iff] at h
            obtain ⟨ces, h1, rfl⟩ := h
            obtain ⟨c1, cs, a1, a2, rfl, a4⟩ := listM_cons h1
            have ex := bfOf_ok hb
            subst ex
            exact s_bf C hg hd (lst h1) a4 (listM_star X.env pos a2)
        · cases h
set_option maxHeartbeats 1000000 in
theorem snd_e {d : Nat} (ih : SndE T tab cl fa pss n d) {c : Sc} {e : Expr} {ce : CE} {X : Cx} {W : WX} (h : compE T (d + 1) c e = some ce) (C : CxOk T tab cl fa pss n X W) (sc : ScOk c X) : PE X e (LE (gx X cl fa) W (evalE (cxF tab n) ce)) := by
  have lst : ∀ {es : List Expr} {ces : CEs}, listM (compE T d c) es = some ces → PA X es (LA (gx X cl fa) W (evalEs (cxF tab n) ces)) := fun h => s_list (fun e ce q => ih.e q C sc) h
  cases e with
  | Name x pos => exact s_name C sc h
  | Constant k j pos => exact s_const h
  | Tuple es k pos =>
    have h : (listM (compE T d c) es).map CE.tup = some ce := h
    simp only [Option.map_eq_some_iff] at h
    obtain ⟨ces, h1, rfl⟩ := h
    exact s_tup (lst h1)
  | List es pos =>
    have h : (listM (compE T d c) es).map CE.lst = some ce := h
    simp only [Option.map_eq_some_iff] at h
    obtain ⟨ces, h1, rfl⟩ := h
    exact s_lst (lst h1)
  | BinOp a op b pos =>
    have h : (match compE T d c a, bopC op, compE T d c b with
      | some x, some o, some y => some (CE.bin o x y)
      | _, _, _ => none) = some ce := h
    split at h
    · rename_i x o y h1 h2 h3
      cases h
      rw [bopC_ok h2]
      exact s_bin (ih.e h1 C sc) (ih.e h3 C sc)
    · cases h
  | UnaryOp op a pos =>
    cases op with
    | USub =>
      have h : (compE T d c a).map CE.neg = some ce := h
      simp only [Option.map_eq_some_iff] at h
      obtain ⟨x, h1, rfl⟩ := h
      exact s_neg (ih.e h1 C sc)
    | Not =>
      have h : (compE T d c a).map CE.nt = some ce := h
      simp only [Option.map_eq_some_iff] at h
      obtain ⟨x, h1, rfl⟩ := h
      exact s_not (ih.e h1 C sc)
    | _ => exact noneof h
  | BoolOp op vs pos =>
    cases vs with
    | nil => cases op <;> exact noneof h
    | cons a vs =>
      cases vs with
      | nil =>
        have h : compE T d c a = some ce := by cases op <;> exact h
        exact pe_one (ih.e h C sc)
      | cons b r =>
        cases op with
        | And =>
          have h : (match compE T d c a, compE T d c (.BoolOp .And (b :: r) pos) with
            | some x, some y => some (CE.and x y)
            | _, _ => none) = some ce := h
          split at h
          · rename_i x y h1 h2
            cases h
            exact s_and (ih.e h1 C sc) (ih.e h2 C sc)
          · cases h
        | Or =>
          have h : (match compE T d c a, compE T d c (.BoolOp .Or (b :: r) pos) with
            | some x, some y => some (CE.or x y)
            | _, _ => none) = some ce := h
          split at h
          · rename_i x y h1 h2
            cases h
            exact s_or (ih.e h1 C sc) (ih.e h2 C sc)
          · cases h
  | IfExp t a b pos =>
    have h : (match compE T d c t, compE T d c a, compE T d c b with
      | some z, some x, some y => some (CE.ife z x y)
      | _, _, _ => none) = some ce := h
    split at h
    · rename_i z x y h1 h2 h3
      cases h
      exact s_ife (ih.t h1 C sc) (ih.e h2 C sc) (ih.e h3 C sc)
    · cases h
  | Compare a ops bs pos => exact (cmp_case ih h C sc).1
  | Subscript a b pos =>
    have h : (match compKd T c (compE T d c) a b with
      | some r => some r
      | none => compSub (compE T d c) a b) = some ce := h
    split at h
    · rename_i r h1
      cases h
      exact kd_case ih h1 C sc
    · exact sub_case ih h C sc
  | Call f args kws pos =>
    cases f with
    | Name x p =>
      cases kws with
      | cons _ _ => exact noneof h
      | nil =>
        have h : (match compLens c (compE T d c) (.Name x p) args with
          | some r => some r
          | none => match compLzip c (compE T d c) (.Name x p) args with
            | some r => some r
            | none => match compLrng c (compE T d c) (.Name x p) args with
              | some r => some r
              | none => compCall T c (compE T d c) x args) = some ce := h
        split at h
        · rename_i r h1
          cases h
          exact lens_case ih h1 C sc
        · split at h
          · rename_i r h1
            cases h
            exact lzip_case ih h1 C sc
          · split at h
            · rename_i r h1
              cases h
              exact lrng_case ih h1 C sc
            · exact call_case ih h C sc
    | Attribute o m apos =>
      cases kws with
      | cons _ _ => exact noneof h
      | nil =>
        have h : (if isDm m.cps.toList then compDm (compE T d c) o m apos pos args else compMth T (compE T d c) o m apos pos args) = some ce := h
        split at h
        · exact dm_case ih h C sc
        · exact mth_case ih h C sc
    | _ => exact noneof h
  | Attribute o f pos =>
    have h : (if noSup o then (compE T d c o).map (CE.fld · f.cps.toList) else none) = some ce := h
    split at h
    · rename_i hns
      simp only [Option.map_eq_some_iff] at h
      obtain ⟨x, h1, rfl⟩ := h
      exact s_fld C (ih.e h1 C sc) hns
    · cases h
  | Dict ks vs pos =>
    cases ks with
    | cons k0 kr => 
      cases k0 with
      | none => cases kr <;> cases vs <;> exact noneof h
      | some k0 =>
        cases kr with
        | cons _ _ => cases vs <;> exact noneof h
        | nil =>
          cases vs with
          | nil => exact noneof h
          | cons v vr =>
            cases vr with
            | cons _ _ => exact noneof h
            | nil =>
              have h : (match compE T d c k0, compE T d c v with
                | some x, some y => some (if T.tk.contains (pos.line, pos.col) then CE.ddist x y else CE.ddis x y)
                | _, _ => none) = some ce := h
              split at h
              · rename_i x y h1 h2
                cases h
                split
                · exact s_ddist C (ih.e h1 C sc) (ih.e h2 C sc)
                · exact s_ddis (ih.e h1 C sc) (ih.e h2 C sc)
              · cases h
    | nil =>
      cases vs with
      | cons _ _ => exact noneof h
      | nil =>
        cases h
        exact s_dnew
  | ListComp elt gens scope pos => exact lc_case ih h C sc
  | _ => exact noneof h
theorem snd_w {d : Nat} (ih : SndE T tab cl fa pss n d) {c : Sc} {op : BoolOp} {vs : List Expr} {pos : Pos} {ce : CE} {X : Cx} {W : WX} (h : compE T (d + 1) c (.BoolOp op vs pos) = some ce) (C : CxOk T tab cl fa pss n X W) (sc : ScOk c X) :
    PW X (.BoolOp op vs pos) (LTt (gx X cl fa) W (testE (cxF tab n) ce)) := by
  cases vs with
  | nil => cases op <;> exact noneof h
  | cons a vs =>
    cases vs with
    | nil =>
      cases op with
      | And => exact pw_and1 (ih.t h C sc)
      | Or => exact pw_or1 (ih.t h C sc)
    | cons b r =>
      cases op with
      | And =>
        have h : (match compE T d c a, compE T d c (.BoolOp .And (b :: r) pos) with
          | some x, some y => some (CE.and x y)
          | _, _ => none) = some ce := h
        split at h
        · rename_i x y h1 h2
          cases h
          refine pw_mono (pw_and (ih.t h1 C sc) (ih.w h2 C sc)) fun σ H Q hh => ?_
          rw [testE_and] at hh
          obtain ⟨α, S, ρ, hr, he, hw⟩ := t_bind (h := fun k ρ S => if k then testE (cxF tab n) y ρ S else .ok false S) hh
          refine ⟨α, S, ρ, hr, he, hw.imp1 fun α1 H1 k S1 e1 r1 q1 => ?_⟩
          cases k with
          | true => exact q1
          | false => exact t_ok q1
        · cases h
      | Or =>
        have h : (match compE T d c a, compE T d c (.BoolOp .Or (b :: r) pos) with
          | some x, some y => some (CE.or x y)
          | _, _ => none) = some ce := h
        split at h
        · rename_i x y h1 h2
          cases h
          refine pw_mono (pw_or (ih.t h1 C sc) (ih.w h2 C sc)) fun σ H Q hh => ?_
          rw [testE_or] at hh
          obtain ⟨α, S, ρ, hr, he, hw⟩ := t_bind (h := fun k ρ S => if k then .ok true S else testE (cxF tab n) y ρ S) hh
          refine ⟨α, S, ρ, hr, he, hw.imp1 fun α1 H1 k S1 e1 r1 q1 => ?_⟩
          cases k with
          | true => exact t_ok q1
          | false => exact q1
        · cases h
theorem snd_t {d : Nat} (ih : SndE T tab cl fa pss n d) {c : Sc} {e : Expr} {ce : CE} {X : Cx} {W : WX} (h : compE T (d + 1) c e = some ce) (C : CxOk T tab cl fa pss n X W) (sc : ScOk c X) : PT X e (LTt (gx X cl fa) W (testE (cxF tab n) ce)) := by
  have gen := snd_e (W := W) ih h C sc
  cases e with
  | UnaryOp op a pos =>
    cases op with
    | Not =>
      have h : (compE T d c a).map CE.nt = some ce := h
      simp only [Option.map_eq_some_iff] at h
      obtain ⟨x, h1, rfl⟩ := h
      refine pt_mono (pt_not (ih.t h1 C sc)) fun σ H Q hh => ?_
      rw [testE_not] at hh
      obtain ⟨α, S, ρ, hr, he, hw⟩ := t_bind (h := fun k ρ S => .ok (!k) S) hh
      exact ⟨α, S, ρ, hr, he, hw.imp1 fun α1 H1 k S1 e1 r1 q1 => t_ok q1⟩
    | _ => exact s_truth gen (fun _ => rfl)
  | BoolOp op vs pos => exact (snd_w ih h C sc).pt
  | IfExp t a b pos =>
    have h : (match compE T d c t, compE T d c a, compE T d c b with
      | some z, some x, some y => some (CE.ife z x y)
      | _, _, _ => none) = some ce := h
    split at h
    · rename_i z x y h1 h2 h3
      cases h
      refine pt_mono (pt_ifE (ih.t h1 C sc) (ih.t h2 C sc) (ih.t h3 C sc)) fun σ H Q hh => ?_
      rw [testE_ife] at hh
      obtain ⟨α, S, ρ, hr, he, hw⟩ := t_bind (h := fun k ρ S => if k then testE (cxF tab n) x ρ S else testE (cxF tab n) y ρ S) hh
      refine ⟨α, S, ρ, hr, he, hw.imp1 fun α1 H1 k S1 e1 r1 q1 => ?_⟩
      cases k with
      | true => exact q1
      | false => exact q1
    · cases h
  | Compare a ops bs pos => exact (cmp_case ih h C sc).2
  | _ => exact s_truth gen (fun _ => rfl)
theorem snd_g {d : Nat} (ih : SndE T tab cl fa pss n d) {c : Sc} {e : Expr} {ct : CT} {X : Cx} {W : WX} (h : compT T (d + 1) c e = some ct) (C : CxOk T tab cl fa pss n X W) (sc : ScOk c X) : PG X e (LG (gx X cl fa) ct.slots (assignE (cxF tab n) ct)) := by
  cases e with
  | Name x pos =>
    have h : (if locB c x then (ixOfN x c.N).map CT.name else none) = some ct := h
    split at h
    · rename_i hl
      simp only [Option.map_eq_some_iff] at h
      obtain ⟨i, hi, rfl⟩ := h
      exact g_name C sc hl hi
    · cases h
  | Tuple es k pos =>
    have h : (compTs T d c es).map CT.tup = some ct := h
    simp only [Option.map_eq_some_iff] at h
    obtain ⟨ts, h1, rfl⟩ := h
    obtain ⟨q1, q2, q3, q4⟩ := ih.gs h1 C sc
    exact g_tup C q1 q2 q3 fun xs ρ S hl => assignEs_bad _ ts xs ρ S (by rw [q4]; exact hl)
  | Subscript o i pos =>
    have h : (if isSlice i then none else match compE T d c o, compE T d c i with
      | some x, some y => some (CT.sub x y)
      | _, _ => none) = some ct := h
    split at h
    · cases h
    · rename_i hs
      split at h
      · rename_i x y h1 h2
        cases h
        exact g_sub C (ih.e h1 C sc) (ih.e h2 C sc) (by simpa using hs)
      · cases h
  | _ => exact noneof h
theorem snd_gs {d : Nat} (ih : SndE T tab cl fa pss n d) {c : Sc} {es : List Expr} {ct : CTs} {X : Cx} {W : WX} (h : compTs T (d + 1) c es = some ct) (C : CxOk T tab cl fa pss n X W) (sc : ScOk c X) :
    PGs X es (LGs (gx X cl fa) ct.slots (assignEs (cxF tab n) ct)) ∧ (assignEach es X.env).length = es.length ∧ (assignEach es X.env).findIdx? (·.1) = none ∧ ct.len = es.length := by
  cases es with
  | nil =>
    cases h
    exact ⟨gs_nil, rfl, rfl, rfl⟩
  | cons e es =>
    have h : (if isStar e then none else match compT T d c e, compTs T d c es with
      | some t, some ts => some (CTs.cons t ts)
      | _, _ => none) = some ct := h
    split at h
    · cases h
    · rename_i hst
      split at h
      · rename_i t ts h1 h2
        cases h
        obtain ⟨q1, q2, q3, q4⟩ := ih.gs h2 C sc
        have ea : assignEach (e :: es) X.env = (false, assign e X.env) :: assignEach es X.env := by
          cases e <;> first
            | rfl
            | exact absurd rfl hst
        refine ⟨gs_cons (ih.g h1 C sc) q1 (by rw [ea]; rfl), by rw [ea]; simp [q2], ?_, by simp [CTs.len, q4]⟩
        rw [ea, List.findIdx?_cons]
        simp [q3]
      · cases h
theorem snd_i {d : Nat} (ih : SndE T tab cl fa pss n d) {c : Sc} {e : Expr} {ci : CI} {X : Cx} {W : WX} (h : compI T (d + 1) c e = some ci) (C : CxOk T tab cl fa pss n X W) (sc : ScOk c X) (tg : Expr) : PI X tg e (LIt (gx X cl fa) W (iterE (cxF tab n) ci)) := by
  have gen : (compE T d c e).map CI.seq = some ci → PI X tg e (LIt (gx X cl fa) W (iterE (cxF tab n) ci)) := fun h => by
    simp only [Option.map_eq_some_iff] at h
    obtain ⟨ce, h1, rfl⟩ := h
    exact s_iseq (ih.e h1 C sc)
  cases e with
  | Call f args kws pos =>
    cases f with
    | Name x p =>
      cases kws with
      | cons _ _ => exact gen h
      | nil =>
        have h : (if x = "range" then (if !(plainN x && glbB c.sc x) then none else compRng (compE T d c) args) else (compE T d c (.Call (.Name x p) args [] pos)).map CI.seq) = some ci := h
        split at h
        · rename_i hx
          subst hx
          split at h
          · cases h
          · rename_i hp
            have hp : plainN "range" = true ∧ glbB c.sc "range" = true := by simpa using hp
            have hg := glbB_ok sc hp.2
            unfold compRng at h
            split at h
            · split at h
              · cases h
              · rename_i hst
                simp only [Option.map_eq_some_iff] at h
                obtain ⟨ce, h1, rfl⟩ := h
                exact s_rng C hg (by simpa using hst) (ih.e h1 C sc)
            · split at h
              · cases h
              · rename_i a b _ hst
                have hst : isStar a = false ∧ isStar b = false := by simpa [Bool.or_eq_true, not_or] using hst
                split at h
                · rename_i x y h1 h2
                  cases h
                  exact s_rng2 C hg hst.1 hst.2 (ih.e h1 C sc) (ih.e h2 C sc)
                · cases h
            · cases h
        · exact gen h
    | _ => exact gen h
  | _ => exact gen h
theorem snd_all : ∀ d, SndE T tab cl fa pss n d
  | 0 => ⟨fun h => noneof h, fun h => noneof h, fun h => noneof h, fun h => noneof h, fun h => noneof h, fun h => noneof h⟩
  | d + 1 => ⟨snd_e (snd_all d), snd_t (snd_all d), snd_w (snd_all d), snd_g (snd_all d), fun h => snd_gs (snd_all d) h, snd_i (snd_all d)⟩
end
end L3
set_option maxRecDepth 100000
/-! L3Snd5: statements. -/
namespace L3
open PySem PySem.Spec PyProof.Rows L2
def PF (g : G) (D : Ends) (α : List Addr) (H : Hp) : Fl → Prop
  | .nx ρ => ∀ σ', RE g α H ρ σ' → D.nx σ' H
  | .rt v => ∀ w, RV g.K α H v w → D.rt w H
  | .bk ρ => ∀ σ', RE g α H ρ σ' → D.bk σ' H
  | .ct ρ => ∀ σ', RE g α H ρ σ' → D.ct σ' H
def WpS (g : G) (W : WX) (r : RS) (α : List Addr) (H : Hp) (D : Ends) : Prop := match r with
  | .ok fl S => Pst g α H (fun α' H' fl _ => PF g D α' H' fl) fl S
  | .exc x ρ S => Pst g α H (fun α' H' x _ => ∀ σ', RE g α' H' ρ σ' → ∀ c d, RX g x c d α' H' → W c d σ' H') x S
  | .stuck => False
def LS (g : G) (W : WX) (f : Env → Store → RS) : TS := fun D σ H => ∃ α S ρ, Rep g α S H ∧ RE g α H ρ σ ∧ WpS g W (f ρ S) α H D
section
variable {g : G} {W : WX} {α α' : List Addr} {H H' : Hp} {D D' : Ends} {r : RS}
theorem WpS.ext (h : WpS g W r α H D) (e : Ext α H α' H') : WpS g W r α' H' D := by
  cases r with
  | ok b S => exact fun α2 H2 e2 r2 => h α2 H2 (e.trans e2) r2
  | exc x ρ S => exact fun α2 H2 e2 r2 => h α2 H2 (e.trans e2) r2
  | stuck => exact h
theorem WpS.at {β : Type} {q : R β} {ρ : Env} {σ : L2.St} {f : β → Store → RS} (h : WpS g W (q.at ρ f) α H D) (he : RE g α H ρ σ) : Wp g q α H (fun α' H' b S => WpS g W (f b S) α' H' D) (EW g W σ) := by
  cases q with
  | ok b S => exact fun α' H' e r => WpS.ext (show WpS g W (f b S) α H D from h) e
  | exc x S => exact fun α' H' e r c d hx => (show Pst g α H (fun α' H' x _ => ∀ σ', RE g α' H' ρ σ' → ∀ c d, RX g x c d α' H' → W c d σ' H') x S from h) α' H' e r σ (he.ext e) c d hx
  | stuck => exact h
/-- a statement's end, by the ends -/
theorem WpS.imp (h : WpS g W r α H D) (hp : ∀ fl S, r = .ok fl S → ∀ α' H', Ext α H α' H' → Rep g α' S H' → PF g D α' H' fl → PF g D' α' H' fl) : WpS g W r α H D' := by
  cases r with
  | ok fl S => exact fun α' H' e q => hp fl S rfl α' H' e q (h α' H' e q)
  | exc x ρ S => exact h
  | stuck => exact h
/-- bind -/
theorem WpS.bind {f : Fl → Store → RS} (h : WpS g W (r.bind f) α H D) (hp : ∀ fl S, r = .ok fl S → ∀ α' H', Ext α H α' H' → Rep g α' S H' → WpS g W (f fl S) α' H' D → PF g D' α' H' fl) : WpS g W r α H D' := by
  cases r with
  | ok fl S => exact fun α' H' e q => hp fl S rfl α' H' e q (WpS.ext (show WpS g W (f fl S) α H D from h) e)
  | exc x ρ S => exact h
  | stuck => exact h
theorem WpS.nx {ρ : Env} {S : Store} (h : WpS g W (.ok (.nx ρ) S) α H D) (hr : Rep g α S H) {σ : L2.St} (he : RE g α H ρ σ) : D.nx σ H := h α H (Ext.refl _ _) hr σ he
theorem WpS.bk {ρ : Env} {S : Store} (h : WpS g W (.ok (.bk ρ) S) α H D) (hr : Rep g α S H) {σ : L2.St} (he : RE g α H ρ σ) : D.bk σ H := h α H (Ext.refl _ _) hr σ he
theorem WpS.ct {ρ : Env} {S : Store} (h : WpS g W (.ok (.ct ρ) S) α H D) (hr : Rep g α S H) {σ : L2.St} (he : RE g α H ρ σ) : D.ct σ H := h α H (Ext.refl _ _) hr σ he
theorem WpS.rt {v : PV} {S : Store} (h : WpS g W (.ok (.rt v) S) α H D) (hr : Rep g α S H) {w : V} (he : RV g.K α H v w) : D.rt w H := h α H (Ext.refl _ _) hr w he
end
section
variable {X : Cx} {st : Stmt}
theorem ps_mono {t t' : TS} (h : PS X st t) (m : ∀ D σ H, t' D σ H → t D σ H) : PS X st t' := ⟨fun pins s σ H D I q => h.run pins s σ H D I (m D σ H q)⟩
theorem pss_mono {sts : List Stmt} {t t' : TS} (h : PSs X sts t) (m : ∀ D σ H, t' D σ H → t D σ H) : PSs X sts t' := ⟨fun pins s σ H D I q => h.run pins s σ H D I (m D σ H q)⟩
end
section
variable {X : Cx} {T : GT} {tab : Tab} {cl fa : Nat → Addr} {pss : Nat → List Str} {n : Nat} {W : WX} {c : Sc}
/-- a value stored in a target -/
theorem ls_asg {t : CT} {ce : CE} {D : Ends} {σ : L2.St} {H : Hp} (hh : LS (gx X cl fa) W (execS (cxF tab n) (.asg t ce)) D σ H) :
    LE (gx X cl fa) W (evalE (cxF tab n) ce) σ H fun x H1 => LG (gx X cl fa) t.slots (assignE (cxF tab n) t) x σ H1 D.nx := by
  obtain ⟨α, S, ρ, hr, he, hw⟩ := hh
  unfold execS at hw
  refine ⟨α, S, ρ, hr, he, (hw.at he).imp1 fun α1 H1 v S1 e1 r1 q1 w1 v1 => ⟨α1, S1, ρ, v, r1, he.ext e1, v1, ?_⟩⟩
  cases ha : assignE (cxF tab n) t v ρ S1 with
  | ok ρ' S2 =>
    rw [ha] at q1
    exact fun α' H' e r σ' he' _ => WpS.nx (WpS.ext (show WpS (gx X cl fa) W (.ok (.nx ρ') S2) α1 H1 D from q1) e) r he'
  | exc x S2 => rw [ha] at q1; exact q1.elim
  | stuck => rw [ha] at q1; exact q1.elim
theorem swaps_no {e : Expr} {t : Option Expr} {l : Nat} {env : PySem.Env} (h : isLc e = false) : swapsWith e t l env = pure false := by
  cases e <;> first
    | rfl
    | cases h
theorem names_short {env : PySem.Env} {line : Nat} : ∀ {ts : List Expr}, ts.any (fun t => !isNameE t) = true →
    (ts.filterMap fun
      | .Name id pos => if env.kindOf id == some .local && pos.line == line then some id else none
      | _ => none).length < ts.length
  | [], h => by simp at h
  | t :: ts, h => by
    rw [List.any_cons, Bool.or_eq_true] at h
    have le : ∀ ts : List Expr, (ts.filterMap fun
      | .Name id pos => if env.kindOf id == some .local && pos.line == line then some id else none
      | _ => none).length ≤ ts.length := fun ts => List.length_filterMap_le _ _
    rw [List.filterMap_cons]
    split
    · have := le ts
      rw [List.length_cons]
      omega
    · rename_i b hb
      rcases h with h | h
      · cases t <;> first
          | (cases hb; done)
          | (cases h; done)
      · have := names_short (line := line) (env := env) h
        rw [List.length_cons, List.length_cons]
        omega
theorem swapped_tup {ts vs : List Expr} {k k2 : Nat} {p p2 : Pos} {env : PySem.Env} (h : ts.any (fun t => !isNameE t) = true) : swappedStores [.Tuple ts k p] (.Tuple vs k2 p2) env = pure none := by
  unfold swappedStores
  simp only []
  split
  · rfl
  · split
    · rfl
    · have := names_short (env := env) (line := (ts.head?.map (·.pos.line)).getD 0) h
      rw [if_pos]
      rw [Bool.or_eq_true]
      left
      rw [bne_iff_ne]
      exact Nat.ne_of_lt this
theorem swapped_no {e tg : Expr} {env : PySem.Env} (h : (isTupE e && isTupE tg && !subT tg) = false) : swappedStores [tg] e env = pure none := by
  by_cases hs : subT tg = true
  · cases tg <;> first
      | (cases hs; done)
      | (cases e <;> first
        | rfl
        | exact swapped_tup hs)
  rw [Bool.not_eq_true] at hs
  rw [hs, Bool.not_false, Bool.and_true] at h
  cases tg <;> first
    | rfl
    | (cases e <;> first
      | rfl
      | (cases h; done))
theorem swaps_lc {c : Sc} {elt : Expr} {gens : List Comprehension} {scope : Scope} {pos py : Pos} {y : Str} {l : Nat} {env : PySem.Env} (hs : env.scope = c.sc) (hk : env.scope.kind = .function) :
    swapsWith (.ListComp elt gens scope pos) (some (.Name y py)) l env = pure (swapB c y py (.ListComp elt gens scope pos)) := by
  have hb : env.blockKind = .function := by unfold Env.blockKind; rw [hk]; rfl
  have hy : (env.kindOf y == some NameKind.local) = (match c.sc.names.lookup y with | some .local => true | _ => false) := by
    unfold Env.kindOf
    rw [hs]
    cases c.sc.names.lookup y with
    | none => rfl
    | some k => cases k <;> rfl
  unfold swapsWith swapB
  simp only [hb, hy, Expr.pos]
  rfl
theorem kind_of {pins : List (Addr × Obj)} {σ : L2.St} {H : Hp} {s : Shared} (I : Inv X pins σ H s) : X.env.scope.kind = .function := I.ok.kind
theorem ps_of_inv {t : TS} {st : Stmt} (h : X.env.scope.kind = .function → PS X st t) : PS X st t := ⟨fun pins s σ H D I q => (h (kind_of I)).run pins s σ H D I q⟩
theorem locals_of (sc : ScOk c X) {y : Str} (h : (match c.sc.names.lookup y with | some .local => true | _ => false) = true) : X.env.scope.names.lookup y = some .local := by
  rw [sc.sc]
  split at h <;> simp_all
theorem s_asgName {d : Nat} (C : CxOk T tab cl fa pss n X W) (sc : ScOk c X) {y : Str} {py pos : Pos} {e : Expr} {i : Nat} {ce : CE} (hl : locB c y = true) (hi : ixOfN y c.N = some i) (he : compE T d c e = some ce) :
    PS X (.Assign [.Name y py] e pos) (LS (gx X cl fa) W (execS (cxF tab n) (.asg (.name i) ce))) := by
  refine ps_of_inv fun hk => ?_
  obtain ⟨l1, l2⟩ := locB_ok sc hl
  have hN : X.N[i]? = some y := by rw [sc.N]; exact ixOfN_ok hi
  have fin : ∀ {D : Ends} {σ : L2.St} {H : Hp} {x : V}, LG (gx X cl fa) (CT.name i).slots (assignE (cxF tab n) (.name i)) x σ H D.nx → gName i x σ H D.nx := fun {D σ H x} ⟨α, S, ρ, v, hr, he, hv, hw⟩ => by
    unfold assignE at hw
    split at hw
    · refine (show Wp (gx X cl fa) (.ok (ρ.set i (some v)) S) α H (fun α' H' ρ' _ => ∀ σ', RE (gx X cl fa) α' H' ρ' σ' → ButSl [i] σ σ' → D.nx σ' H') (fun _ _ _ _ => False) from hw).ok hr _ (he.set hv) ⟨by simp, fun j hj => ?_⟩
      rw [List.getElem?_set_ne]
      intro z
      exact hj (by simp [z])
    · exact hw.elim
  by_cases hsw : swapB c y py e = true
  · cases e <;> first
      | (cases hsw; done)
      | skip
    · rename_i elt gens scope p2
      have hs := hsw.symm
      have hy : X.env.scope.names.lookup y = some .local := by
        have hs : ((match c.sc.names.lookup y with | some .local => true | _ => false) && (py.line == p2.line) && !(scope.names.any fun (n, k) => n == y && (k == .local || k == .cell))) = true := hs.symm
        simp only [Bool.and_eq_true] at hs
        exact locals_of sc hs.1.1
      cases d with
      | zero => cases he
      | succ d =>
        obtain ⟨tg, iter, ifs, own, wi, gg, tt, te, rfl, p1, p2, p3, p4, p5, p6, p7⟩ := lc_parts (W := W) (snd_all d) he C sc
        refine ps_mono (ps_setLc C.calm C.nd hN hy (by rw [swaps_lc sc.sc hk, ← hs]) p1 p2 p3 p4 p5 p6) fun D σ H hh => ?_
        refine p7 _ _ _ ?_
        have := ls_asg hh
        obtain ⟨α, S, ρ, hr, h1, hw⟩ := this
        exact ⟨α, S, ρ, hr, h1, hw.imp1 fun α1 H1 v S1 e1 r1 q1 w1 v1 => fin (q1 w1 v1)⟩
  · have hsw : swapB c y py e = false := by simpa using hsw
    have hno : swapsWith e (some (.Name y py)) pos.line X.env = pure false := by
      cases e <;> first
        | rfl
        | (rw [swaps_lc sc.sc hk, hsw])
        | (cases d with
            | zero => cases he
            | succ d => exact noneof he)
    refine ps_mono (ps_set C.nd hN l1 ((snd_all d).e he C sc) hno l2) fun D σ H hh => ?_
    obtain ⟨α, S, ρ, hr, h1, hw⟩ := ls_asg hh
    exact ⟨α, S, ρ, hr, h1, hw.imp1 fun α1 H1 v S1 e1 r1 q1 w1 v1 => fin (q1 w1 v1)⟩
theorem s_asg {d : Nat} (C : CxOk T tab cl fa pss n X W) (sc : ScOk c X) {tg e : Expr} {pos : Pos} {t : CT} {ce : CE} (ht : compT T d c tg = some t) (he : compE T d c e = some ce) (h1 : isLc e = false) (h2 : (isTupE e && isTupE tg && !subT tg) = false) :
    PS X (.Assign [tg] e pos) (LS (gx X cl fa) W (execS (cxF tab n) (.asg t ce))) := by
  have hst : isStar tg = false := by
    cases d with
    | zero => cases ht
    | succ d => cases tg <;> first
      | rfl
      | exact noneof ht
  refine ps_mono (ps_asg ((snd_all d).e he C sc) ((snd_all d).g (W := W) ht C sc) (swaps_no h1) (swapped_no h2) (by
    cases tg <;> first
      | rfl
      | cases hst)) fun D σ H hh => ls_asg hh
theorem s_aug {d : Nat} (C : CxOk T tab cl fa pss n X W) (sc : ScOk c X) {y : Str} {py pos : Pos} {e : Expr} {i : Nat} {ce : CE} {op : BOp} (ho : op = .add ∨ op = .sub) (hl : locB c y = true) (hi : ixOfN y c.N = some i) (he : compE T d c e = some ce) :
    PS X (.AugAssign (.Name y py) (bopO op) e pos) (LS (gx X cl fa) W (execS (cxF tab n) (.aug i op ce))) := by
  obtain ⟨l1, l2⟩ := locB_ok sc hl
  have hN : X.N[i]? = some y := by rw [sc.N]; exact ixOfN_ok hi
  have core : ∀ {ti : TIp}, (∀ (a b : Int) H Q, Q (.int (match op with | .add => a + b | _ => a - b)) H → ti (.int a) (.int b) H Q) → PIp X (bopO op) ti → PS X (.AugAssign (.Name y py) (bopO op) e pos) (LS (gx X cl fa) W (execS (cxF tab n) (.aug i op ce))) := fun {ti} hti hp => by
    refine ps_mono (ps_aug C.nd hN l1 ((snd_all d).e he C sc) hp l2) fun D σ H ⟨α, S, ρ, hr, h1, hw⟩ => ?_
    unfold execS at hw
    unfold getV at hw
    split at hw
    · rename_i v hv
      obtain ⟨w, a1, a2⟩ := h1.at_ i v hv
      have hw : WpS (gx X cl fa) W ((evalE (cxF tab n) ce ρ S).at ρ _) α H D := hw
      refine ⟨w, a1, α, S, ρ, hr, h1, (hw.at h1).imp1 fun α1 H1 y S1 e1 r1 q1 w1 v1 => ?_⟩
      have a3 := a2.ext e1
      rcases ho with rfl | rfl
      · cases v <;> first
          | exact q1.elim
          | skip
        cases y <;> first
          | exact q1.elim
          | skip
        cases a3; cases v1
        exact hti _ _ _ _ (WpS.nx (show WpS (gx X cl fa) W (.ok (.nx (ρ.set i (some (.int _)))) S1) α1 H1 D from q1) r1 ((h1.ext e1).set rfl))
      · cases v <;> first
          | exact q1.elim
          | skip
        cases y <;> first
          | exact q1.elim
          | skip
        cases a3; cases v1
        exact hti _ _ _ _ (WpS.nx (show WpS (gx X cl fa) W (.ok (.nx (ρ.set i (some (.int _)))) S1) α1 H1 D from q1) r1 ((h1.ext e1).set rfl))
    · exact hw.elim
  rcases ho with rfl | rfl
  · exact core (fun a b H Q q => ⟨a, b, rfl, rfl, q⟩) ip_add
  · exact core (fun a b H Q q => ⟨a, b, rfl, rfl, q⟩) ip_sub
theorem rf_put {K : PySem.W.Frag} {α : List Addr} {H : Hp} {f : Sy} {v : PV} {w : V} (r : RV K α H v w) : ∀ {fs : List (Sy × PV)} {gs : List (Str × V)}, RF K α H fs gs → RF K α H (L3.putF f v fs) (L2.putF (toStr f) w gs) ∧ fs.length = gs.length
  | [], _, h => by
    cases h
    exact ⟨⟨w, [], rfl, r, rfl⟩, rfl⟩
  | (g, x) :: fs, _, h => by
    obtain ⟨y, ws, rfl, h1, h2⟩ := h
    obtain ⟨i1, i2⟩ := rf_put r h2
    refine ⟨?_, by simp [i2]⟩
    unfold L3.putF L2.putF
    by_cases e : g = f
    · subst e
      rw [if_pos rfl, if_pos rfl]
      exact ⟨w, ws, rfl, r, h2⟩
    · rw [if_neg e, if_neg (fun z => e (str_inj.mp z))]
      exact ⟨y, _, rfl, h1, i1⟩
theorem s_asgF (C : CxOk T tab cl fa pss n X W) {o e : Expr} {f : Str} {p2 pos : Pos} {co ce : CE} (ho : PE X o (LE (gx X cl fa) W (evalE (cxF tab n) co))) (he : PE X e (LE (gx X cl fa) W (evalE (cxF tab n) ce))) (h1 : isLc e = false) :
    PS X (.Assign [.Attribute o f p2] e pos) (LS (gx X cl fa) W (execS (cxF tab n) (.asg (.fld co f.cps.toList) ce))) := by
  refine ps_mono (ps_fld ho he (swaps_no h1)) fun D σ H hh => ?_
  obtain ⟨α, S, ρ, hr, hre, hw⟩ := ls_asg hh
  refine ⟨α, S, ρ, hr, hre, hw.imp1 fun α1 H1 v S1 e1 r1 q1 w1 v1 => ?_⟩
  obtain ⟨α2, S2, ρ2, x, r2, re2, rv2, q2⟩ := q1 w1 v1
  unfold assignE at q2
  rw [nox_bind] at q2
  refine ⟨α2, S2, ρ2, r2, re2, (q2.nox0 (E' := EW (gx X cl fa) W σ)).imp1 fun α3 H3 a S3 e3 r3 q3 w3 v3 => ?_⟩
  cases hS : setFld tab a f.cps.toList x S3 with
  | none =>
    rw [show (cxF tab n).T = tab from rfl, hS] at q3
    exact q3.elim
  | some S4 =>
    rw [show (cxF tab n).T = tab from rfl, hS] at q3
    have q3 : Wp (gx X cl fa) (.ok ρ2 S4) α3 H3 (fun α' H' ρ' _ => ∀ σ', RE (gx X cl fa) α' H' ρ' σ' → ButSl [] σ σ' → D.nx σ' H') (fun _ _ _ _ => False) := q3
    unfold setFld at hS
    split at hS
    · rename_i p
      split at hS
      · rename_i cc fs hp
        split at hS
        · rename_i hc
          simp only [Bool.and_eq_true, decide_eq_true_eq] at hc
          cases hS
          obtain ⟨ad, ha2, rfl⟩ := v3
          obtain ⟨dx, gs, g1, g2⟩ := r3.at hp ha2
          obtain ⟨k1, k2⟩ := C.nm.attr cc _ hc.1
          rw [toStr_cps] at k2
          have rx := rv2.ext e3
          obtain ⟨i1, i2⟩ := rf_put (f := f.cps.toList) rx g2
          rw [toStr_cps] at i1
          have ex := Ext.set (List.mem_of_getElem? ha2) g1 rfl (.ins (cl cc) dx (L2.putF f w1 gs))
          exact ⟨ad, cl cc, dx, gs, rfl, g1, k1, k2, by rw [← i2]; exact hc.2, q3.okE ex (r3.set ha2 ex.kp ⟨dx, _, upd_same, RF.kp ex.kp i1⟩) σ ((re2.ext e3).ext ex) (ButSl.refl _ _)⟩
        · cases hS
      · cases hS
    · cases hS
theorem s_rai (C : CxOk T tab cl fa pss n X W) (sc : ScOk c X) {x m : Str} {j : Nat} {p p2 p3 pos : Pos} : PS X (.Raise (some (.Call (.Name x p) [.Constant (.str m) j p2] [] p3)) none pos) (LS (gx X cl fa) W (execS (cxF tab n) (compRai T c x))) := by
  unfold compRai
  split
  · rename_i k hk
    split
    · rename_i hp
      simp only [Bool.and_eq_true] at hp
      obtain ⟨e1, e2, e3, e4, e5⟩ := C.nm.exc x k hk
      refine ps_mono (ps_raise C.calm C.tk (pmk_own PySem.F.excBase_ValueError e2 e1 e3 (raises_own e4 e5) (glbB_ok sc hp.2) (plainN_ok hp.1).1)) fun D σ H ⟨α, S, ρ, hr, he, hw⟩ => ?_
      exact (show Pst (gx X cl fa) α H (fun α' H' x _ => ∀ σ', RE (gx X cl fa) α' H' ρ σ' → ∀ c d, RX (gx X cl fa) x c d α' H' → W c d σ' H') ⟨k, []⟩ S from hw) α H (Ext.refl _ _) hr σ he _ _ ⟨rfl, .inl ⟨rfl, rfl⟩⟩
    · exact ps_mono ps_never fun D σ H ⟨α, S, ρ, hr, he, hw⟩ => hw.elim
  · exact ps_mono ps_never fun D σ H ⟨α, S, ρ, hr, he, hw⟩ => hw.elim
/-! ### o[i] += e, lists -/
theorem pget_li : PGet X (rIxL X.K) := by
  intro pins s σ H x y v u Q I rx ry h
  obtain ⟨p, xs, i, z, rfl, rfl, hq, he, q⟩ := h
  cases rx
  obtain ⟨t, rfl⟩ := ry
  obtain ⟨its, r, pl, hz⟩ := I.list hq
  obtain ⟨j, h1, h2, h3, h4, h5⟩ := atI_get he
  obtain ⟨w, ew, rw'⟩ := r.get h2
  have hl := r.length
  have hn := line63
  have fin : EP X pins σ Q w s := ⟨z, H, I, rw', q⟩
  by_cases h0 : 0 ≤ i
  · have hj : i.toNat = j := by
      rw [seqIndex_of h0 h5] at h1
      exact Option.some.inj h1
    exact wpAny_getItem_list pl.isList h0 (by omega) (by rw [hj]; simpa using ew) fin
  · have hj : (i + (its.toArray.size : Int)).toNat = j := by
      rw [seqIndex_neg (by omega) h4] at h1
      rw [List.size_toArray, ← hl]
      exact Option.some.inj h1
    exact wpAny_getItem_list_neg pl.isList (by omega) (by rw [List.size_toArray] <;> omega) (by omega) (by rw [hj]; simpa using ew) fin
theorem s_del (C : CxOk T tab cl fa pss n X W) {o i : Expr} {tpos pos : Pos} {co ci : CE} (ho : PE X o (LE (gx X cl fa) W (evalE (cxF tab n) co))) (hi : PE X i (LE (gx X cl fa) W (evalE (cxF tab n) ci))) :
    PS X (.Delete [.Subscript o i tpos] pos) (LS (gx X cl fa) W (execS (cxF tab n) (.del co ci))) := by
  refine ps_mono (ps_ddel ho hi) fun D σ H ⟨α, S, ρ, hr, h1, hw⟩ => ?_
  unfold execS at hw
  refine ⟨α, S, ρ, hr, h1, (hw.at h1).imp1 fun α1 H1 x S1 e1 r1 q1 w1 v1 => ⟨α1, S1, ρ, r1, h1.ext e1, (q1.at (h1.ext e1)).imp1 fun α2 H2 y S2 e2 r2 q2 w2 v2 => ?_⟩⟩
  have h2 := (h1.ext e1).ext e2
  have hv1 := v1.ext e2
  cases hd : delIx x y S2 with
  | none => rw [hd] at q2; exact q2.elim
  | some S3 =>
    rw [hd] at q2
    have q2 : WpS (gx X cl fa) W (.ok (.nx ρ) S3) α2 H2 D := q2
    unfold delIx at hd
    split at hd
    · rename_i p
      split at hd
      · rename_i kvs hp
        split at hd
        · rename_i hk
          cases hd
          simp only [Bool.and_eq_true] at hk
          obtain ⟨a, ha, rfl⟩ := id hv1
          obtain ⟨ds, g1, g2⟩ := r2.at hp ha
          obtain ⟨j, hj⟩ := isKey_f hk.1
          have ev := key_rv v2 hj
          subst ev
          have hO := rd_get (K := X.K) krK_ok hj g2
          have hs : (valV ds j).isSome = true := by rw [← hO.some]; exact hk.2
          have ex := Ext.set (List.mem_of_getElem? ha) g1 rfl (.dK (dropK ds j))
          refine ⟨a, ds, j, rfl, g1, rfl, hs, ?_⟩
          exact (WpS.ext q2 ex).nx (r2.set ha ex.kp ⟨_, upd_same, RDg.kp ex.kp (rd_drop krK_ok hj g2)⟩) (h2.ext ex)
        · cases hd
      · cases hd
    · cases hd
theorem s_augs (C : CxOk T tab cl fa pss n X W) {o i e : Expr} {tpos pos : Pos} {co ci ce : CE} {op : BOp} (hop : op = .add ∨ op = .sub) (ho : PE X o (LE (gx X cl fa) W (evalE (cxF tab n) co))) (hi : PE X i (LE (gx X cl fa) W (evalE (cxF tab n) ci))) (he : PE X e (LE (gx X cl fa) W (evalE (cxF tab n) ce))) (hs : isSlice i = false) :
    PS X (.AugAssign (.Subscript o i tpos) (bopO op) e pos) (LS (gx X cl fa) W (execS (cxF tab n) (.augs co ci op ce))) := by
  have core : ∀ {ti : TIp}, (∀ (a b : Int) (c : PV) H Q, augI op (.int a) (.int b) = some c → (∀ w α, RV X.K α H c w → Q w H) → ti (.int a) (.int b) H Q) → PIp X (bopO op) ti → PS X (.AugAssign (.Subscript o i tpos) (bopO op) e pos) (LS (gx X cl fa) W (execS (cxF tab n) (.augs co ci op ce))) := fun {ti} hti hp => by
    refine ps_mono (ps_augS ho hi pget_li he hp (set_all C) (by
      intro ov iv new
      cases i <;> first
        | rfl
        | cases hs)) fun D σ H ⟨α, S, ρ, hr, h1, hw⟩ => ?_
    unfold execS at hw
    refine ⟨α, S, ρ, hr, h1, (hw.at h1).imp1 fun α1 H1 x S1 e1 r1 q1 w1 v1 => ⟨α1, S1, ρ, r1, h1.ext e1, (q1.at (h1.ext e1)).imp1 fun α2 H2 y S2 e2 r2 q2 w2 v2 => ?_⟩⟩
    have h2 := (h1.ext e1).ext e2
    have hv1 := v1.ext e2
    cases hg : getLi x y S2 with
    | none => rw [hg] at q2; exact q2.elim
    | some v =>
      rw [hg] at q2
      have q2 : WpS (gx X cl fa) W ((evalE (cxF tab n) ce ρ S2).at ρ _) α2 H2 D := q2
      unfold getLi at hg
      split at hg
      · rename_i p k _q
        split at hg
        · rename_i xs hp2
          obtain ⟨ad, vs, rfl, ha, e3, r3⟩ := r2.list (X := X) hp2 hv1
          cases v2
          obtain ⟨wv, a1, a2⟩ := atI_of (X := X) r3 hg
          refine ⟨ad, vs, k, wv, rfl, rfl, SqL.of e3, a1, α2, S2, ρ, r2, h2, (q2.at h2).imp1 fun α3 H3 z S3 e3 r3 q3 w3 v3 => ?_⟩
          cases hc : augI op v z with
          | none => rw [hc] at q3; exact q3.elim
          | some c =>
            rw [hc] at q3
            have q3 : WpS (gx X cl fa) W ((ofO (setIx (.ref p) (.int k) c S3) S3).at ρ _) α3 H3 D := q3
            have a3 := a2.ext e3
            cases v <;> first
              | (cases hc; done)
              | skip
            cases z <;> first
              | (cases hc; done)
              | skip
            cases a3
            cases v3
            refine hti _ _ c _ _ hc fun w β hcw => ?_
            cases hS : setIx (.ref p) (.int k) c S3 with
            | none => rw [hS] at q3; exact q3.elim
            | some S4 =>
              rw [hS] at q3
              have hcw2 : RV X.K α3 H3 c w := by
                rcases hop with rfl | rfl <;> (cases hc; exact hcw)
              exact setIx_of r3 hS (hv1.ext e3) (w2 := .int k) rfl hcw2 fun H' ex r4 => WpS.nx (WpS.ext (show WpS (gx X cl fa) W (.ok (.nx ρ) S4) α3 H3 D from q3) ex) r4 ((h2.ext e3).ext ex)
        · cases hg
      · cases hg
  rcases hop with rfl | rfl
  · exact core (fun a b c H Q hc q => ⟨a, b, rfl, rfl, q _ [] (by cases hc; exact rfl)⟩) ip_add
  · exact core (fun a b c H Q hc q => ⟨a, b, rfl, rfl, q _ [] (by cases hc; exact rfl)⟩) ip_sub
/-! ### o.f += e -/
theorem s_augf (C : CxOk T tab cl fa pss n X W) {o e : Expr} {f : Str} {tpos pos : Pos} {co ce : CE} {op : BOp} (hop : op = .add ∨ op = .sub) (ho : PE X o (LE (gx X cl fa) W (evalE (cxF tab n) co))) (he : PE X e (LE (gx X cl fa) W (evalE (cxF tab n) ce))) :
    PS X (.AugAssign (.Attribute o f tpos) (bopO op) e pos) (LS (gx X cl fa) W (execS (cxF tab n) (.augf co f.cps.toList op ce))) := by
  have core : ∀ {rd : V → V → Hp → VK → Prop}, (∀ (a b : Int) (c : PV) H Q, augI op (.int a) (.int b) = some c → (∀ w α, RV X.K α H c w → Q w H) → rd (.int a) (.int b) H Q) → InOp X (bopO op) rd → PS X (.AugAssign (.Attribute o f tpos) (bopO op) e pos) (LS (gx X cl fa) W (execS (cxF tab n) (.augf co f.cps.toList op ce))) := fun {rd} hti hp => by
    refine ps_mono (ps_fldaug ho he hp) fun D σ H ⟨α, S, ρ, hr, h1, hw⟩ => ?_
    unfold execS at hw
    refine ⟨α, S, ρ, hr, h1, (hw.at h1).imp1 fun α1 H1 x S1 e1 r1 q1 w1 v1 => ?_⟩
    have h2 := h1.ext e1
    cases hg : getFld tab x f.cps.toList S1 with
    | none => rw [show (cxF tab n).T = tab from rfl, hg] at q1; exact q1.elim
    | some v =>
      rw [show (cxF tab n).T = tab from rfl, hg] at q1
      have q5 : WpS (gx X cl fa) W ((evalE (cxF tab n) ce ρ S1).at ρ _) α1 H1 D := q1
      clear q1
      unfold getFld at hg
      split at hg
      · rename_i p
        split at hg
        · rename_i cc fs hp
          split at hg
          · rename_i ha
            obtain ⟨ad, ha2, rfl⟩ := id v1
            obtain ⟨dx, gs, g1, g2⟩ := r1.at hp ha2
            obtain ⟨k1, k2⟩ := C.nm.attr cc _ ha
            rw [toStr_cps] at k2
            have lk := rf_look (f := f.cps.toList) g2
            rw [hg, toStr_cps] at lk
            cases hl : gs.lookup f with
            | none => rw [hl] at lk; exact lk.elim
            | some wv =>
            rw [hl] at lk
            have lk : RV X.K α1 H1 v wv := lk
            refine ⟨ad, cl cc, dx, gs, wv, rfl, g1, k1, k2, hl, α1, S1, ρ, r1, h2, (q5.at h2).imp1 fun α3 H3 z S3 e3 r3 q3 w3 v3 => ?_⟩
            cases hc : augI op v z with
            | none => rw [hc] at q3; exact q3.elim
            | some c =>
              rw [hc] at q3
              have q3 : WpS (gx X cl fa) W ((ofO (setFldC tab (.ref p) f.cps.toList c S1 S3) S3).at ρ _) α3 H3 D := q3
              have a3 := lk.ext e3
              cases v <;> first
                | (cases hc; done)
                | skip
              cases z <;> first
                | (cases hc; done)
                | skip
              cases a3
              cases v3
              refine hti _ _ c _ _ hc fun w β hcw => ?_
              cases hS0 : setFldC tab (.ref p) f.cps.toList c S1 S3 with
              | none => rw [hS0] at q3; exact q3.elim
              | some S4 =>
                rw [hS0] at q3
                have hcw2 : RV X.K α3 H3 c w := by
                  rcases hop with rfl | rfl <;> (cases hc; exact hcw)
                unfold setFldC at hS0
                split at hS0
                · rename_i hcl
                  have hS : setFld tab (.ref p) f.cps.toList c S3 = some S4 := hS0
                  unfold setFld at hS
                  simp only at hS
                  split at hS
                  · rename_i c2 fs2 hp2
                    split at hS
                    · rename_i hc2
                      simp only [Bool.and_eq_true, decide_eq_true_eq] at hc2
                      cases hS
                      have ec : cc = c2 := by
                        simp only [clsAt, hp, hp2, Option.some.injEq] at hcl
                        exact hcl
                      subst ec
                      have ha3 := e3.at ha2
                      obtain ⟨dx2, gs2, g3, g4⟩ := r3.at hp2 ha3
                      obtain ⟨i1, i2⟩ := rf_put (f := f.cps.toList) hcw2 g4
                      rw [toStr_cps] at i1
                      have ex := Ext.set (List.mem_of_getElem? ha3) g3 rfl (.ins (cl cc) dx2 (L2.putF f w gs2))
                      have r4 := r3.set ha3 ex.kp (mo := .ins cc (L3.putF f.cps.toList c fs2)) ⟨dx2, _, upd_same, RF.kp ex.kp i1⟩
                      exact ⟨dx2, gs2, g3, by rw [← i2]; exact hc2.2, WpS.nx (WpS.ext (show WpS (gx X cl fa) W (.ok (.nx ρ) (S3.set p (.ins cc (L3.putF f.cps.toList c fs2)))) α3 H3 D from q3) ex) r4 ((h2.ext e3).ext ex)⟩
                    · cases hS
                  · cases hS
                · cases hS0
          · cases hg
        · cases hg
      · cases hg
  rcases hop with rfl | rfl
  · exact core (fun a b c H Q hc q => ⟨a, b, rfl, rfl, q _ [] (by cases hc; exact rfl)⟩) in_add
  · exact core (fun a b c H Q hc q => ⟨a, b, rfl, rfl, q _ [] (by cases hc; exact rfl)⟩) in_sub
/-! ### try -/
theorem CxOk.tr (C : CxOk T tab cl fa pss n X W) {W' : WX} {pn : List (Addr × Obj)} {xe : Value → Shared → Prop} (tk : Takes (X.tr pn xe) W') (po : PassesOwn (model X.prog X.w) X.A X.env xe) : CxOk T tab cl fa pss n (X.tr pn xe) W' :=
  ⟨C.calm, C.nd, C.room, C.nm, C.fns, C.ini, tk, po⟩
theorem ScOk.tr (sc : ScOk c X) (pn : List (Addr × Obj)) (xe : Value → Shared → Prop) : ScOk c (X.tr pn xe) := ⟨sc.sc, sc.N, sc.fn, sc.top⟩
theorem execH_nx {cx : Cxi} {e : Exn} {x : Option Nat} {ρ : Env} {S : Store} : ∀ {h : HSs}, (∀ fl S', execH cx h e x ρ S = .ok fl S' → fl = .nx ρ ∨ ∃ v, fl = .rt v) ∧ ∀ y ρ' S', execH cx h e x ρ S ≠ .exc y ρ' S'
  | .nil => ⟨fun fl S' h => by unfold execH at h; cases h; exact .inl rfl, fun y ρ' S' h => by unfold execH at h; cases h⟩
  | .cons d v r => by
    have rt : (∀ fl S', ((evalE cx v ρ S).nox.at ρ fun w S => .ok (.rt w) S) = .ok fl S' → fl = .nx ρ ∨ ∃ v, fl = .rt v) ∧ ∀ y ρ' S', ((evalE cx v ρ S).nox.at ρ fun w S => .ok (.rt w) S) ≠ .exc y ρ' S' := by
      cases evalE cx v ρ S with
      | ok a S1 => exact ⟨fun fl S' h => by cases h; exact .inr ⟨a, rfl⟩, fun y ρ' S' h => by cases h⟩
      | exc y S1 => exact ⟨fun fl S' h => (by cases h), fun y ρ' S' h => by cases h⟩
      | stuck => exact ⟨fun fl S' h => (by cases h), fun y ρ' S' h => by cases h⟩
    unfold execH
    split
    · exact rt
    · exact execH_nx (h := r)
    · exact ⟨fun fl S' h => (by cases h), fun y ρ' S' h => (by cases h)⟩
abbrev NoW : WX := fun _ _ _ _ => False
/-- an except suite's reading -/
def LHs (g : G) (tab : Tab) (n : Nat) (io : Option Nat) (a : Addr) (k : Nat) (h : HSs) : TS := fun D σ H => ∃ α S ρ, Rep g α S H ∧ RE g α H ρ σ ∧ (∀ i, io = some i → σ[i]? = some (some (V.ref a))) ∧ WpS g NoW (execH (cxF tab n) h ⟨k, []⟩ io ρ S) α H D
theorem subO_ok {e : Exn} {d : Nat} {b : Bool} (h : subO tab e d = some b) : e.fs = [] ∧ e.c ∈ tab.xs ∧ d ∈ tab.xs ∧ b = (tab.sub.any fun q => q.1 == e.c && q.2 == d) := by
  unfold subO at h
  split at h
  · rename_i hc
    simp only [Bool.and_eq_true, List.isEmpty_iff] at hc
    obtain ⟨h1, h2, h3⟩ := hc
    cases h
    exact ⟨h1, by simpa using h2, by simpa using h3, rfl⟩
  · cases h
theorem compK_ok {X : Cx} {W : WX} {v : Expr} {ce : CE} (h : compK v = some ce) : PE X v (LE (gx X cl fa) W (evalE (cxF tab n) ce)) := by
  unfold compK at h
  split at h
  · exact s_const h
  · simp only [Option.map_eq_some_iff] at h
    obtain ⟨ces, h1, rfl⟩ := h
    refine s_tup (s_list (fun e ce q => ?_) h1)
    unfold compKc at q
    split at q
    · exact s_const q
    · cases q
  · cases h
theorem ret_read {X : Cx} {v : Expr} {ce : CE} {pos : Pos} (h : compK v = some ce) : PS X (.Return (some v) pos) (fun D σ H => ∃ α S ρ, Rep (gx X cl fa) α S H ∧ RE (gx X cl fa) α H ρ σ ∧ WpS (gx X cl fa) NoW ((evalE (cxF tab n) ce ρ S).nox.at ρ fun w S => .ok (.rt w) S) α H D) := by
  refine ps_mono (ps_ret (compK_ok (cl := cl) (fa := fa) (tab := tab) (n := n) (W := NoW) h)) fun D σ H ⟨α, S, ρ, hr, h1, hw⟩ => ?_
  exact ⟨α, S, ρ, hr, h1, ((hw.at h1).imp1 fun α1 H1 v S1 e1 r1 q1 w1 v1 => WpS.rt q1 r1 v1).noxE _⟩
theorem s_suite (nm : NmOk X.K X.w X.mg T tab cl fa) (sc : ScOk c X) {a : Addr} {oe : Obj} {pn : List (Addr × Obj)} {k : Nat} (hk : k ∈ tab.xs) (hz : Zc (.ref (cl k)) none oe) (hf : ∃ vs, oe.data = .fields vs) {no : Option Str} {io : Option Nat} (hio : compXs c no = some io) :
    ∀ (suite : List Stmt) (h : HSs), compH T c no suite = some h → PSs (X.suite a ((a, oe) :: pn)) suite (LHs (gx X cl fa) tab n io a k h)
  | suite, h, hc => by
    unfold compH at hc
    split at hc
    · cases hc
      exact pss_mono pss_nil fun D σ H ⟨α, S, ρ, hr, h1, _, hw⟩ => WpS.nx (show WpS (gx X cl fa) NoW (.ok (.nx ρ) S) α H D from hw) hr h1
    · rename_i t v p1 p2 r
      split at hc
      · rename_i d x h' h1 h2 h3
        cases hc
        have ih := s_suite nm sc (a := a) (pn := pn) hk hz hf hio r h' h3
        unfold compHt at h1
        split at h1
        · rename_i i0 q0 y q1 d0 q2 pos2
          split at h1
          · rename_i hcc
            simp only [Bool.and_eq_true, decide_eq_true_eq] at hcc
            obtain ⟨ei, en, ⟨g1, g2⟩, g3, g4⟩ := hcc
            subst ei
            subst en
            unfold compXs at hio
            split at hio
            · rename_i hz'
              cases hz'
            · rename_i n' en'
              cases en'
              split at hio
              · rename_i hloc
                split at hio
                · rename_i hpl
                  simp only [Option.map_eq_some_iff] at hio
                  obtain ⟨i, hi, rfl⟩ := hio
                  obtain ⟨pl1, pl2⟩ := plainN_ok hpl
                  have hN : X.N[i]? = some y := by rw [sc.N]; exact ixOfN_ok hi
                  obtain ⟨m1, m2, m3, m4, m5⟩ := nm.exc d0 d h1
                  have sc2 : ScOk c (X.suite a ((a, oe) :: pn)) := ⟨sc.sc, sc.N, sc.fn, sc.top⟩
                  have hv : Vis (X.suite a ((a, oe) :: pn)).env.scope y := by
                    show Vis X.env.scope y
                    rw [sc.sc]
                    exact .inl hloc
                  have pe1 : PE (X.suite a ((a, oe) :: pn)) (.Name y q1) _ := pe_var (X := X.suite a ((a, oe) :: pn)) hN hv pl1 pl2
                  have pe2 : PE (X.suite a ((a, oe) :: pn)) (.Name d0 q2) (tC (.ref (cl d))) := pe_glob (X := X.suite a ((a, oe) :: pn)) (v := .ref (cl d)) (glbB_ok sc2 g4) m1 rfl (plainN_ok g3).1
                  have pc := pe_callB (p := q0) (pos := pos2) (call_isE (nm.exs k hk) hz hf (pn := pn)) (glbB_ok sc2 g2) nm.isi isi_boot (pa_cons pe1 (pa_cons pe2 pa_nil))
                  refine pss_mono (pss_cons (ps_if (pos := p2) (pt_val pc) (pss_one (ret_read (n := n) (tab := tab) (cl := cl) (fa := fa) (pos := p1) h2)) pss_nil) ih) fun D σ H ⟨α, S, ρ, hr, he, ha, hw⟩ => ?_
                  unfold execH at hw
                  split at hw
                  · rename_i hb
                    obtain ⟨_, b1, b2, b3⟩ := subO_ok hb
                    refine ⟨.ref a, ha i rfl, _, _, true, rfl, fun u hu => hu, ?_, true, rfl, ?_⟩
                    · rw [(nm.exm k d hk b2).2, ← b3]
                    · exact ⟨α, S, ρ, hr, he, hw.imp fun fl S' ef α' H' e r pf => by
                        cases fl with
                        | rt v => exact pf
                        | nx ρ' =>
                          cases hv : evalE (cxF tab n) x ρ S <;> (rw [hv] at ef; cases ef)
                        | bk ρ' =>
                          cases hv : evalE (cxF tab n) x ρ S <;> (rw [hv] at ef; cases ef)
                        | ct ρ' =>
                          cases hv : evalE (cxF tab n) x ρ S <;> (rw [hv] at ef; cases ef)⟩
                  · rename_i hb
                    obtain ⟨_, b1, b2, b3⟩ := subO_ok hb
                    refine ⟨.ref a, ha i rfl, _, _, false, rfl, fun u hu => hu, ?_, false, rfl, ?_⟩
                    · rw [(nm.exm k d hk b2).2, ← b3]
                    · exact ⟨α, S, ρ, hr, he, ha, hw⟩
                  · exact hw.elim
                · cases hio
              · cases hio
          · cases h1
        · cases h1
      · cases hc
    · rename_i v p1
      simp only [Option.map_eq_some_iff] at hc
      obtain ⟨x, h1, rfl⟩ := hc
      refine pss_mono (pss_one (ret_read (n := n) (tab := tab) (cl := cl) (fa := fa) (pos := p1) h1)) fun D σ H ⟨α, S, ρ, hr, he, ha, hw⟩ => ⟨α, S, ρ, hr, he, ?_⟩
      unfold execH at hw
      exact hw
    · rename_i p1
      cases hc
      exact pss_mono (pss_one ps_pass) fun D σ H ⟨α, S, ρ, hr, h1, _, hw⟩ => WpS.nx (show WpS (gx X cl fa) NoW (.ok (.nx ρ) S) α H D from hw) hr h1
    · cases hc
/-- the end of a suite: the exception's slot is wiped -/
theorem pf_wipe {g : G} {D : Ends} {α : List Addr} {H : Hp} {fl : Fl} {i : Nat} {ρ : Env} (hfl : fl = .nx ρ ∨ ∃ v, fl = .rt v) (hρ : ∀ v, ρ[i]? ≠ some (some v)) (h : PF g D α H fl) :
    PF g { nx := fun σ' H' => D.nx (σ'.set i none) H', rt := D.rt, bk := fun σ' H' => D.bk (σ'.set i none) H', ct := fun σ' H' => D.ct (σ'.set i none) H' } α H fl := by
  rcases hfl with rfl | ⟨v, rfl⟩
  · intro σ' re
    refine h _ ⟨by simp [re.len], fun j v hj => ?_⟩
    by_cases z : j = i
    · subst z
      exact absurd hj (hρ v)
    · obtain ⟨w, h1, h2⟩ := re.at_ j v hj
      exact ⟨w, by rw [List.getElem?_set_ne (Ne.symm z)]; exact h1, h2⟩
  · exact h
theorem WpS.noW {g : G} {W W' : WX} {r : RS} {α : List Addr} {H : Hp} {D : Ends} (h : WpS g W r α H D) (hr : ∀ y ρ S, r ≠ .exc y ρ S) : WpS g W' r α H D := by
  cases r with
  | ok fl S => exact h
  | exc y ρ S => exact absurd rfl (hr y ρ S)
  | stuck => exact h
theorem s_try (C : CxOk T tab cl fa pss n X W) (sc : ScOk c X) {x : Str} {no : Option Str} {body suite : List Stmt} {ob : Option CSs} {np pos' pos : Pos}
    (hb : ∀ {cb : CSs} {X' : Cx} {W' : WX}, ob = some cb → CxOk T tab cl fa pss n X' W' → ScOk c X' → PSs X' body (LS (gx X' cl fa) W' (execB (cxF tab n) cb))) :
    PS X (.Try body [.ExceptHandler (some (.Name x np)) no suite pos'] [] [] pos) (LS (gx X cl fa) W (execS (cxF tab n) (compTry T c x no ob suite))) := by
  unfold compTry
  split
  · exact ps_mono ps_never fun D σ H ⟨α, S, ρ, hr, he, hw⟩ => hw.elim
  · rename_i hc
    have hc : (c.top = true ∧ plainN x = true ∧ glbB c.sc x = true) ∧ suite ≠ [] := by
      simp only [Bool.or_eq_true, Bool.not_eq_true', Bool.and_eq_false_iff, not_or, Bool.not_eq_false, List.isEmpty_iff] at hc
      obtain ⟨⟨h1, h2, h3⟩, h4⟩ := hc
      exact ⟨⟨h1, h2, h3⟩, h4⟩
    obtain ⟨⟨c1, c2, c3⟩, c4⟩ := hc
    split
    · rename_i k io cb h hk hio hh
      obtain ⟨stk, frm⟩ := sc.top c1
      obtain ⟨m1, m2, m3, m4, m5⟩ := C.nm.exc x k hk
      have nm : Names X x (.ref (cl k)) := ⟨glbB_ok sc c3, (plainN_ok c2).1, .inl m1⟩
      cases suite with
      | nil => exact absurd rfl c4
      | cons b₀ suite =>
        have body_ : ∀ (W' : WX) (pn : List (Addr × Obj)) (xe : Value → Shared → Prop), Takes (X.tr pn xe) W' → PassesOwn (model X.prog X.w) X.A X.env xe → PSs (X.tr pn xe) body (LS (gx X cl fa) W' (execB (cxF tab n) cb)) :=
          fun W' pn xe tk po => hb (X' := X.tr pn xe) rfl (C.tr tk po) (sc.tr pn xe)
        let ts : Addr → Value → Option Addr → TS := fun a cls d D σ H => ∃ k', cls = .ref (cl k') ∧ d = none ∧ k' ∈ tab.xs ∧ LHs (gx X cl fa) tab n io a k' h D σ H
        have suite_ : ∀ (a : Addr) (oe : Obj) (cls : Value) (d : Option Addr) (pn : List (Addr × Obj)), Zc cls d oe → (∃ vs, oe.data = .fields vs) → PSs (X.suite a ((a, oe) :: pn)) (b₀ :: suite) (ts a cls d) := fun a oe cls d pn hz hf => ⟨fun pins s σ H D I q => by
          obtain ⟨k', e1, e2, e3, q⟩ := q
          subst e1
          subst e2
          exact (s_suite (n := n) C.nm sc e3 hz hf hio (b₀ :: suite) h hh).run pins s σ H D I q⟩
        -- the body's reading
        have main : ∀ {D D' : Ends} {σ : L2.St} {H : Hp} {W' : WX}, LS (gx X cl fa) W (execS (cxF tab n) (.try cb k io h)) D σ H → D'.nx = D.nx → D'.rt = D.rt → D'.bk = D.bk → D'.ct = D.ct →
            (∀ (e : Exn) (σ' : L2.St) (α' : List Addr) (H' : Hp) (ρ1 : Env) (S1 : Store), Rep (gx X cl fa) α' S1 H' → RE (gx X cl fa) α' H' ρ1 σ' → e.fs = [] → e.c ∈ tab.xs → k ∈ tab.xs → (tab.sub.any fun q => q.1 == e.c && q.2 == k) = true → inX io ρ1 = true → WpS (gx X cl fa) NoW (execH (cxF tab n) h ⟨e.c, []⟩ io (clr io ρ1) S1) α' H' D → W' (.ref (cl e.c)) none σ' H') →
            (∀ (e : Exn) (σ' : L2.St) (H' : Hp), e.fs = [] → e.c ∈ tab.xs → k ∈ tab.xs → (tab.sub.any fun q => q.1 == e.c && q.2 == k) = false → W (.ref (cl e.c)) none σ' H' → W' (.ref (cl e.c)) none σ' H') →
            LS (gx X cl fa) W' (execB (cxF tab n) cb) D' σ H := fun {D D' σ H W'} ⟨α, S, ρ, hr, he, hw⟩ d1 d2 d3 d4 hy hn => by
          refine ⟨α, S, ρ, hr, he, ?_⟩
          obtain ⟨nx, rt, bk, ct⟩ := D
          obtain ⟨nx', rt', bk', ct'⟩ := D'
          simp only at d1 d2 d3 d4
          subst d1 d2 d3 d4
          unfold execS at hw
          cases hv : execB (cxF tab n) cb ρ S with
          | ok fl S1 => rw [hv] at hw; exact hw
          | stuck => rw [hv] at hw; exact hw.elim
          | exc e ρ1 S1 =>
            rw [hv] at hw
            have hw : WpS (gx X cl fa) W (match subO (cxF tab n).T e k with
              | some true => if inX io ρ1 then execH (cxF tab n) h e io (clr io ρ1) S1 else .stuck
              | some false => .exc e ρ1 S1
              | none => .stuck) α H _ := hw
            intro α' H' ext rep σ' re cv d rx
            cases hO : subO tab e k with
            | none =>
              rw [show (cxF tab n).T = tab from rfl, hO] at hw
              exact hw.elim
            | some b =>
              rw [show (cxF tab n).T = tab from rfl, hO] at hw
              obtain ⟨b1, b2, b3, b4⟩ := subO_ok hO
              obtain ⟨r1, r2⟩ := rx
              have r1 : cv = .ref (cl e.c) := r1
              have ed : d = none := by
                rcases r2 with ⟨_, r2⟩ | ⟨r2, _⟩
                · exact r2
                · exact absurd b1 r2
              subst r1
              subst ed
              cases b with
              | true =>
                have ee : e = ⟨e.c, []⟩ := by
                  obtain ⟨ec, efs⟩ := e
                  simp only at b1
                  rw [b1]
                have hw : WpS (gx X cl fa) W (if inX io ρ1 then execH (cxF tab n) h e io (clr io ρ1) S1 else .stuck) α H _ := hw
                split at hw
                · rename_i hin
                  refine hy e σ' α' H' ρ1 S1 rep re b1 b2 b3 b4.symm hin (WpS.noW (W := W) ?_ (execH_nx).2)
                  rw [← ee]
                  exact WpS.ext hw ext
                · exact hw.elim
              | false => exact hn e σ' H' b1 b2 b3 b4.symm ((show Pst (gx X cl fa) α H (fun α' H' x _ => ∀ σ', RE (gx X cl fa) α' H' ρ1 σ' → ∀ c d, RX (gx X cl fa) x c d α' H' → W c d σ' H') e S1 from hw) α' H' ext rep σ' re _ _ ⟨rfl, .inl ⟨b1, rfl⟩⟩)
        cases no with
        | none =>
          have : io = none := by
            unfold compXs at hio
            cases hio
            rfl
          subst this
          refine ps_mono (ps_try_only stk frm nm C.tk body_ suite_) fun D σ H hh2 => ?_
          refine main hh2 rfl rfl rfl rfl (fun e σ' α' H' ρ1 S1 rep re f1 f2 f3 f4 f5 hw => ?_) (fun e σ' H' f1 f2 f3 f4 hw => ?_)
          · exact ⟨true, by rw [(C.nm.exm e.c k f2 f3).1, f4], fun _ a ha => ⟨e.c, rfl, rfl, f2, α', S1, ρ1, rep, re, fun i hi => by (cases hi), hw⟩, fun z => by cases z⟩
          · exact ⟨false, by rw [(C.nm.exm e.c k f2 f3).1, f4], fun z => (by cases z), fun _ => hw⟩
        | some nn =>
          have hio' := hio
          unfold compXs at hio'
          split at hio'
          · rename_i z
            cases z
          · rename_i n' en'
            cases en'
            split at hio'
            · rename_i hloc
              split at hio'
              · simp only [Option.map_eq_some_iff] at hio'
                obtain ⟨i, hi, rfl⟩ := hio'
                have hN : X.N[i]? = some nn := by rw [sc.N]; exact ixOfN_ok hi
                have hkind : X.env.kindOf nn = some .local := by
                  unfold PySem.Env.kindOf
                  rw [sc.sc]
                  exact hloc
                refine ps_mono (ps_try_as stk frm C.nd hN hkind nm C.tk body_ suite_) fun D σ H hh2 => ?_
                refine main hh2 rfl rfl rfl rfl (fun e σ' α' H' ρ1 S1 rep re f1 f2 f3 f4 f5 hw => ?_) (fun e σ' H' f1 f2 f3 f4 hw => ?_)
                · have hil : i < σ'.length := by
                    rw [← re.len]
                    simpa [inX] using f5
                  refine ⟨true, by rw [(C.nm.exm e.c k f2 f3).1, f4], fun _ a ha => ⟨e.c, rfl, rfl, f2, α', S1, ρ1.set i none, rep, ?_, fun j hj => ?_, ?_⟩, fun z => by cases z⟩
                  · refine ⟨by simp [re.len], fun j v hj => ?_⟩
                    by_cases z : j = i
                    · subst z
                      have hl : j < ρ1.length := by simpa using (List.getElem?_eq_some_iff.mp hj).1
                      rw [List.getElem?_set_self hl] at hj
                      cases hj
                    · rw [List.getElem?_set_ne (Ne.symm z)] at hj
                      obtain ⟨w, g1, g2⟩ := re.at_ j v hj
                      exact ⟨w, by rw [List.getElem?_set_ne (Ne.symm z)]; exact g1, g2⟩
                  · cases hj
                    rw [List.getElem?_set_self hil]
                  · exact hw.imp fun fl S' ef α2 H2 e2 r2 pf => pf_wipe ((execH_nx).1 fl S' ef) (fun v hv => by
                      by_cases hl : i < ρ1.length
                      · rw [show clr (some i) ρ1 = ρ1.set i none from rfl, List.getElem?_set_self hl] at hv
                        cases hv
                      · rw [show clr (some i) ρ1 = ρ1.set i none from rfl, List.getElem?_eq_none (by simpa using hl)] at hv
                        cases hv) pf
                · exact ⟨false, by rw [(C.nm.exm e.c k f2 f3).1, f4], fun z => (by cases z), fun _ => hw⟩
              · cases hio'
            · cases hio'
    · exact ps_mono ps_never fun D σ H ⟨α, S, ρ, hr, he, hw⟩ => hw.elim
/-- what is to be shown of statements -/
structure SndS (T : GT) (tab : Tab) (cl fa : Nat → Addr) (pss : Nat → List Str) (n d : Nat) : Prop where
  s : ∀ {c : Sc} {s : Stmt} {cs : CS} {X : Cx} {W : WX}, compS T d c s = some cs → CxOk T tab cl fa pss n X W → ScOk c X → PS X s (LS (gx X cl fa) W (execS (cxF tab n) cs))
  b : ∀ {c : Sc} {s : List Stmt} {cs : CSs} {X : Cx} {W : WX}, compB T d c s = some cs → CxOk T tab cl fa pss n X W → ScOk c X → PSs X s (LS (gx X cl fa) W (execB (cxF tab n) cs))
theorem s_bad {st : Stmt} : PS X st (LS (gx X cl fa) W (execS (cxF tab n) .bad)) := ps_mono ps_never fun D σ H ⟨α, S, ρ, hr, he, hw⟩ => hw.elim
theorem s_if {t : Expr} {a b : List Stmt} {pos : Pos} {ct : CE} {ca cb : CSs} (ht : PT X t (LTt (gx X cl fa) W (testE (cxF tab n) ct))) (ha : PSs X a (LS (gx X cl fa) W (execB (cxF tab n) ca))) (hb : PSs X b (LS (gx X cl fa) W (execB (cxF tab n) cb))) :
    PS X (.If t a b pos) (LS (gx X cl fa) W (execS (cxF tab n) (.ite ct ca cb))) := by
  refine ps_mono (ps_if ht ha hb) fun D σ H ⟨α, S, ρ, hr, he, hw⟩ => ?_
  unfold execS at hw
  refine ⟨α, S, ρ, hr, he, (hw.at he).imp1 fun α1 H1 k S1 e1 r1 q1 => ?_⟩
  cases k with
  | true => exact ⟨α1, S1, ρ, r1, he.ext e1, q1⟩
  | false => exact ⟨α1, S1, ρ, r1, he.ext e1, q1⟩
theorem s_while (C : CxOk T tab cl fa pss n X W) {t : Expr} {b : List Stmt} {pos : Pos} {ct : CE} {cb : CSs} (ht : PT X t (LTt (gx X cl fa) W (testE (cxF tab n) ct))) (hb : PSs X b (LS (gx X cl fa) W (execB (cxF tab n) cb))) :
    PS X (.While t b [] pos) (LS (gx X cl fa) W (execS (cxF tab n) (.whl ct cb))) := by
  refine ps_mono (ps_while C.po ht hb) fun D σ H hh => ?_
  refine ⟨fun m σ H => LS (gx X cl fa) W (fun ρ S => whLoop (testE (cxF tab n) ct) (execB (cxF tab n) cb) m ρ S) D σ H, ⟨tab.F, hh⟩, ?_⟩
  rintro m σ H ⟨α, S, ρ, hr, he, hw⟩
  cases m with
  | zero => exact hw.elim
  | succ F =>
    unfold whLoop at hw
    refine ⟨α, S, ρ, hr, he, (hw.at he).imp1 fun α1 H1 k S1 e1 r1 q1 => ?_⟩
    cases k with
    | false => exact WpS.nx q1 r1 (he.ext e1)
    | true =>
      refine ⟨LS (gx X cl fa) W (fun ρ S => whLoop (testE (cxF tab n) ct) (execB (cxF tab n) cb) F ρ S) D, fun σ' H' h => ⟨F, Nat.lt_succ_self F, h⟩, α1, S1, ρ, r1, he.ext e1, ?_⟩
      have q1 : WpS (gx X cl fa) W ((execB (cxF tab n) cb ρ S1).bind _) α1 H1 D := q1
      refine q1.bind fun fl S2 _ α2 H2 e2 r2 q2 => ?_
      cases fl with
      | nx ρ2 => exact fun σ' h' => ⟨α2, S2, ρ2, r2, h', q2⟩
      | ct ρ2 => exact fun σ' h' => ⟨α2, S2, ρ2, r2, h', q2⟩
      | bk ρ2 => exact fun σ' h' => WpS.nx q2 r2 h'
      | rt v => exact fun w h' => WpS.rt q2 r2 h'
theorem s_for (C : CxOk T tab cl fa pss n X W) {tg it : Expr} {b : List Stmt} {pos : Pos} {t : CT} {ci : CI} {cb : CSs} (hi : PI X tg it (LIt (gx X cl fa) W (iterE (cxF tab n) ci))) (hg : PG X tg (LG (gx X cl fa) t.slots (assignE (cxF tab n) t)))
    (hb : PSs X b (LS (gx X cl fa) W (execB (cxF tab n) cb))) (hs : isSet it = false) : PS X (.For tg it b [] pos) (LS (gx X cl fa) W (execS (cxF tab n) (.fr t ci cb))) := by
  refine ps_mono (ps_for C.po C.calm hi hg hb (hs := by
    intro x
    cases it <;> first
      | rfl
      | cases hs)) fun D σ H ⟨α, S, ρ, hr, he, hw⟩ => ?_
  unfold execS at hw
  refine ⟨α, S, ρ, hr, he, (hw.at he).imp1 fun α1 H1 Jv S1 e1 r1 q1 J jr => ?_⟩
  refine ⟨fun i m σ H' => ∃ α' S' ρ', Ext α1 H1 α' H' ∧ Rep (gx X cl fa) α' S' H' ∧ RE (gx X cl fa) α' H' ρ' σ ∧ WpS (gx X cl fa) W (frLoop (assignE (cxF tab n) t) (execB (cxF tab n) cb) Jv m i ρ' S') α' H' D,
    ⟨tab.F, α1, S1, ρ, Ext.refl _ _, r1, he.ext e1, q1⟩, ?_⟩
  rintro i m σ H' ⟨α', S', ρ', e, r, h', q⟩
  cases m with
  | zero => exact q.elim
  | succ F =>
    unfold frLoop at q
    split at q
    · exact q.elim
    · rename_i hx
      exact .inl ⟨(jr α' H' S' i e r).2 hx, WpS.nx q r h'⟩
    · rename_i x hx
      obtain ⟨go, yl⟩ := (jr α' H' S' i e r).1 x hx
      refine .inr ⟨go, fun σ H' => ∃ α' S' ρ', Ext α1 H1 α' H' ∧ Rep (gx X cl fa) α' S' H' ∧ RE (gx X cl fa) α' H' ρ' σ ∧ WpS (gx X cl fa) W (frLoop (assignE (cxF tab n) t) (execB (cxF tab n) cb) Jv F (i + 1) ρ' S') α' H' D,
        fun σ' H2 h => ⟨F, Nat.lt_succ_self F, h⟩, fun w H2 y => ?_⟩
      obtain ⟨ey, ry, vy⟩ := yl w H2 y
      refine ⟨α', S', ρ', x, ry, h'.ext ey, vy, ?_⟩
      have q2 := q.ext ey
      cases ha : assignE (cxF tab n) t x ρ' S' with
      | exc _ _ => rw [ha] at q2; exact q2.elim
      | stuck => rw [ha] at q2; exact q2.elim
      | ok ρ3 S3 =>
        rw [ha] at q2
        intro α3 H3 e3 r3 σ3 h3 _
        have q3 : WpS (gx X cl fa) W ((execB (cxF tab n) cb ρ3 S3).bind _) α3 H3 D := WpS.ext q2 e3
        refine ⟨α3, S3, ρ3, r3, h3, q3.bind fun fl S4 _ α4 H4 e4 r4 q4 => ?_⟩
        have ee := ((e.trans ey).trans e3).trans e4
        cases fl with
        | nx ρ4 => exact fun σ' h' => ⟨α4, S4, ρ4, ee, r4, h', q4⟩
        | ct ρ4 => exact fun σ' h' => ⟨α4, S4, ρ4, ee, r4, h', q4⟩
        | bk ρ4 => exact fun σ' h' => WpS.nx q4 r4 h'
        | rt v => exact fun w h' => WpS.rt q4 r4 h'
/-- a statement that locks a dict -/
theorem s_lck {st : Stmt} {k : Nat} {cs : CS} (h : PS X st (LS (gx X cl fa) W (execS (cxF tab n) cs))) : PS X st (LS (gx X cl fa) W (execS (cxF tab n) (.lck k cs))) := by
  refine ps_mono (ps_lock h) fun D σ H ⟨α, S, ρ, hr, he, hw⟩ => ?_
  unfold execS at hw
  split at hw
  · rename_i p hk
    split at hw
    · rename_i kvs hp
      split at hw
      · rename_i fl S1 hx
        split at hw
        · rename_i kvs1 hp1
          obtain ⟨w, _, a, ha, _⟩ := he.at_ k _ hk
          obtain ⟨ds, h1, h2⟩ := hr.at hp ha
          have hm := List.mem_of_getElem? ha
          refine ⟨a, _, h1, trivial, fun od => ?_⟩
          have ex := Ext.set hm h1 rfl (.frz od (.dK ds))
          refine ⟨α, S.set p (.fdc kvs), ρ, hr.set ha ex.kp ⟨od, ds, upd_same, RDg.kp ex.kp h2⟩, he.ext ex, ?_⟩
          rw [hx]
          intro α' H' e r
          have hf : H' a = some (.frz od (.dK ds)) := e.frzs _ _ _ upd_same
          have ha' := e.at ha
          have kU : Kp α' H' α' (upd H' a (.dK ds)) := by
            refine ⟨fun _ _ h => h, fun b ys q => ?_, fun b u v q nk => ?_⟩
            · rw [upd_ne]; exact q
              rintro rfl
              rw [hf] at q; cases q
            · rw [upd_ne]; exact q
              rintro rfl
              rw [hf] at q; cases q
              exact nk _ rfl
          have eU : Ext α H α' (upd H' a (.dK ds)) := by
            obtain ⟨β, hβ, hβn⟩ := e.pre
            have ne : ∀ b u, H b = some u → b ≠ a → (upd H a (.frz od (.dK ds))) b = some u := fun b u hb z => by rw [upd_ne z]; exact hb
            refine ⟨⟨β, hβ, fun b hb => ?_⟩, fun b u hb hn => ?_, fun b u hb => ?_, fun b ys hb => ?_, fun b o u hb => ?_⟩
            · have q := hβn b hb
              by_cases z : b = a
              · subst z; rw [upd_same] at q; cases q
              · rwa [upd_ne z] at q
            · have z : b ≠ a := fun z => hn (by rw [z]; exact hm)
              rw [upd_ne z]
              exact e.keep b u (ne b u hb z) hn
            · by_cases z : b = a
              · subst z; exact ⟨_, upd_same⟩
              · obtain ⟨u', h'⟩ := e.there b u (ne b u hb z)
                exact ⟨u', by rw [upd_ne z]; exact h'⟩
            · have z : b ≠ a := fun z => by subst z; rw [h1] at hb; cases hb
              rw [upd_ne z]
              exact e.tups b ys (ne b _ hb z)
            · have z : b ≠ a := fun z => by subst z; rw [h1] at hb; cases hb
              rw [upd_ne z]
              exact e.frzs b o u (ne b _ hb z)
          obtain ⟨o', ds', q1, q2⟩ := r.at hp1 ha'
          rw [hf] at q1
          cases q1
          have rU : Rep (gx X cl fa) α' (S1.set p (.dic false kvs1)) (upd H' a (.dK ds)) := r.set ha' kU ⟨ds, upd_same, RDg.kp kU q2⟩
          have key : PF (gx X cl fa) D α' (upd H' a (.dK ds)) fl := hw α' _ eU rU
          cases fl with
          | nx ρ2 => exact fun σ' h' => ⟨hf, key σ' (h'.kp kU)⟩
          | ct ρ2 => exact fun σ' h' => ⟨hf, key σ' (h'.kp kU)⟩
          | bk ρ2 => exact fun σ' h' => ⟨hf, key σ' (h'.kp kU)⟩
          | rt v => exact fun w h' => ⟨hf, key w (h'.kp kU)⟩
        · exact hw.elim
      · exact hw.elim
    · exact hw.elim
  · exact hw.elim
theorem s_ex {e : Expr} {pos : Pos} {ce : CE} (he : PE X e (LE (gx X cl fa) W (evalE (cxF tab n) ce))) (hl : isLc e = false) : PS X (.Expr e pos) (LS (gx X cl fa) W (execS (cxF tab n) (.ex ce))) := by
  refine ps_mono (ps_expr he (swaps_no hl)) fun D σ H ⟨α, S, ρ, hr, h1, hw⟩ => ?_
  unfold execS at hw
  exact ⟨α, S, ρ, hr, h1, (hw.at h1).imp1 fun α1 H1 v S1 e1 r1 q1 w1 v1 => WpS.nx q1 r1 (h1.ext e1)⟩
theorem s_ret {e : Expr} {pos : Pos} {ce : CE} (he : PE X e (LE (gx X cl fa) W (evalE (cxF tab n) ce))) : PS X (.Return (some e) pos) (LS (gx X cl fa) W (execS (cxF tab n) (.ret ce))) := by
  refine ps_mono (ps_ret he) fun D σ H ⟨α, S, ρ, hr, h1, hw⟩ => ?_
  unfold execS at hw
  exact ⟨α, S, ρ, hr, h1, (hw.at h1).imp1 fun α1 H1 v S1 e1 r1 q1 w1 v1 => WpS.rt q1 r1 v1⟩
theorem s_retn {pos : Pos} : PS X (.Return none pos) (LS (gx X cl fa) W (execS (cxF tab n) .retn)) :=
  ps_mono ps_retN fun D σ H ⟨α, S, ρ, hr, h1, hw⟩ => WpS.rt hw hr rfl
theorem s_pass {pos : Pos} : PS X (.Pass pos) (LS (gx X cl fa) W (execS (cxF tab n) .pass)) :=
  ps_mono ps_pass fun D σ H ⟨α, S, ρ, hr, h1, hw⟩ => WpS.nx hw hr h1
theorem s_doc {x : Str} {j : Nat} {p pos : Pos} : PS X (.Expr (.Constant (.str x) j p) pos) (LS (gx X cl fa) W (execS (cxF tab n) .pass)) :=
  ps_mono ps_doc fun D σ H ⟨α, S, ρ, hr, h1, hw⟩ => WpS.nx hw hr h1
theorem s_brk {pos : Pos} : PS X (.Break pos) (LS (gx X cl fa) W (execS (cxF tab n) .brk)) :=
  ps_mono ps_break fun D σ H ⟨α, S, ρ, hr, h1, hw⟩ => WpS.bk hw hr h1
theorem s_cnt {pos : Pos} : PS X (.Continue pos) (LS (gx X cl fa) W (execS (cxF tab n) .cnt)) :=
  ps_mono ps_continue fun D σ H ⟨α, S, ρ, hr, h1, hw⟩ => WpS.ct hw hr h1
theorem s_bnil : PSs X [] (LS (gx X cl fa) W (execB (cxF tab n) .nil)) := pss_mono pss_nil fun D σ H ⟨α, S, ρ, hr, h1, hw⟩ => WpS.nx hw hr h1
theorem s_bcons {s : Stmt} {ss : List Stmt} {cs : CS} {css : CSs} (h1 : PS X s (LS (gx X cl fa) W (execS (cxF tab n) cs))) (h2 : PSs X ss (LS (gx X cl fa) W (execB (cxF tab n) css))) :
    PSs X (s :: ss) (LS (gx X cl fa) W (execB (cxF tab n) (.cons cs css))) := by
  refine pss_mono (pss_cons h1 h2) fun D σ H ⟨α, S, ρ, hr, he, hw⟩ => ?_
  unfold execB at hw
  refine ⟨α, S, ρ, hr, he, hw.bind fun fl S2 _ α2 H2 e2 r2 q2 => ?_⟩
  cases fl with
  | nx ρ2 => exact fun σ' h' => ⟨α2, S2, ρ2, r2, h', q2⟩
  | ct ρ2 => exact fun σ' h' => WpS.ct q2 r2 h'
  | bk ρ2 => exact fun σ' h' => WpS.bk q2 r2 h'
  | rt v => exact fun w h' => WpS.rt q2 r2 h'
theorem bopC_as {o : Operator} (h : bopC o = some .add) : o = .Add := bopC_ok h
theorem snd_s {d : Nat} (ih : SndS T tab cl fa pss n d) {c : Sc} {s : Stmt} {cs : CS} {X : Cx} {W : WX} (h : compS T (d + 1) c s = some cs) (C : CxOk T tab cl fa pss n X W) (sc : ScOk c X) : PS X s (LS (gx X cl fa) W (execS (cxF tab n) cs)) := by
  have E := fun {e : Expr} {ce : CE} (h : compE T d c e = some ce) => (snd_all (T := T) (tab := tab) (cl := cl) (fa := fa) (pss := pss) (n := n) d).e (W := W) h C sc
  have bad : some CS.bad = some cs → PS X s (LS (gx X cl fa) W (execS (cxF tab n) cs)) := fun h => by
    cases h
    exact s_bad
  unfold compS at h
  split at h
  · rename_i y py e pos
    split at h
    · cases h
    · rename_i hb
      have hb : locB c y = true := by simpa using hb
      split at h
      · rename_i i x h1 h2
        cases h
        exact s_asgName C sc hb h1 h2
      · cases h
  · rename_i o f p2 e pos
    split at h
    · cases h
    · rename_i hb
      split at h
      · rename_i x y h1 h2
        cases h
        exact s_asgF C (E h1) (E h2) (by simpa using hb)
      · cases h
  · rename_i tg e pos _ _
    split at h
    · cases h
    · rename_i hb
      have hb : isLc e = false ∧ (isTupE e && isTupE tg && !subT tg) = false := by
        rw [Bool.not_eq_true, Bool.or_eq_false_iff] at hb
        exact hb
      split at h
      · rename_i t x h1 h2
        cases h
        exact s_asg C sc h1 h2 hb.1 hb.2
      · cases h
  · rename_i y py op e pos
    split at h
    · cases h
    · rename_i hb
      have hb : locB c y = true := by simpa using hb
      split at h
      · rename_i i x h1 h2 h3
        cases h
        rw [bopC_ok h2]
        exact s_aug C sc (.inl rfl) hb h1 h3
      · rename_i i x h1 h2 h3
        cases h
        rw [bopC_ok h2]
        exact s_aug C sc (.inr rfl) hb h1 h3
      · cases h
  · rename_i o i p2 op e pos
    split at h
    · exact bad h
    · rename_i hsl
      have hsl : isSlice i = false := by simpa using hsl
      split at h
      · rename_i x y z h1 h2 h3 h4
        cases h
        rw [bopC_ok h3]
        exact s_augs C (.inl rfl) (E h1) (E h2) (E h4) hsl
      · rename_i x y z h1 h2 h3 h4
        cases h
        rw [bopC_ok h3]
        exact s_augs C (.inr rfl) (E h1) (E h2) (E h4) hsl
      · cases h
  · rename_i o f p2 op e pos
    split at h
    · rename_i x y h1 h2 h3
      cases h
      rw [bopC_ok h2]
      exact s_augf C (.inl rfl) (E h1) (E h3)
    · rename_i x y h1 h2 h3
      cases h
      rw [bopC_ok h2]
      exact s_augf C (.inr rfl) (E h1) (E h3)
    · cases h
  · rename_i o i p2 pos
    split at h
    · exact bad h
    · split at h
      · rename_i x y h1 h2
        cases h
        exact s_del C (E h1) (E h2)
      · cases h
  · cases h
    exact s_try C sc fun q C' sc' => ih.b q C' sc'
  · cases h
    exact s_doc
  · rename_i e pos _
    split at h
    · cases h
    · rename_i hl
      simp only [Option.map_eq_some_iff] at h
      obtain ⟨x, h1, rfl⟩ := h
      exact s_ex (E h1) (by simpa using hl)
  · simp only [Option.map_eq_some_iff] at h
    obtain ⟨x, h1, rfl⟩ := h
    exact s_ret (E h1)
  · cases h
    exact s_retn
  · cases h
    exact s_pass
  · cases h
    exact s_rai C sc
  · cases h
    exact s_brk
  · cases h
    exact s_cnt
  · split at h
    · rename_i z x y h1 h2 h3
      cases h
      exact s_if ((snd_all d).t h1 C sc) (ih.b h2 C sc) (ih.b h3 C sc)
    · cases h
  · split at h
    · rename_i z x h1 h2
      cases h
      exact s_while C ((snd_all d).t h1 C sc) (ih.b h2 C sc)
    · cases h
  · split at h
    · cases h
    · rename_i hs
      split at h
      · split at h
        · rename_i k t x h1 h2 h3
          cases h
          unfold walked at h1
          split at h1
          · exact s_lck (s_for C (s_kys sc h1) ((snd_all d).g (W := W) h2 C sc) (ih.b h3 C sc) rfl)
          · cases h1
        · cases h
      split at h
      · rename_i t i x h1 h2 h3
        cases h
        exact s_for C (it_case (snd_all d) h2 C sc) ((snd_all d).g (W := W) h1 C sc) (ih.b h3 C sc) (by simpa using hs)
      · cases h
  · exact bad h
theorem snd_b {d : Nat} (ih : SndS T tab cl fa pss n d) {c : Sc} {s : List Stmt} {cs : CSs} {X : Cx} {W : WX} (h : compB T (d + 1) c s = some cs) (C : CxOk T tab cl fa pss n X W) (sc : ScOk c X) : PSs X s (LS (gx X cl fa) W (execB (cxF tab n) cs)) := by
  cases s with
  | nil =>
    cases h
    exact s_bnil
  | cons s ss =>
    have h : (match compS T d c s, compB T d c ss with
      | some x, some xs => some (CSs.cons x xs)
      | _, _ => none) = some cs := h
    split at h
    · rename_i x xs h1 h2
      cases h
      exact s_bcons (ih.s h1 C sc) (ih.b h2 C sc)
    · cases h
theorem sndS_all : ∀ d, SndS T tab cl fa pss n d
  | 0 => ⟨fun h => noneof h, fun h => noneof h⟩
  | d + 1 => ⟨snd_s (sndS_all d), snd_b (sndS_all d)⟩
end
end L3
set_option maxRecDepth 100000
/-! L3Fun: defs, levels, the law. -/
namespace L3
open PySem PySem.Spec PyProof.Rows L2
theorem WpS.ret {g : G} {E : XK} {r : RS} {α : List Addr} {H : Hp} {Q : VK} (h : Wp g r.ret α H (PV1 g Q) (fun α' H' x _ => ∀ c d, RX g x c d α' H' → E c d H')) : WpS g (fun c d _ H => E c d H) r α H { nx := fun _ H' => Q .non H', rt := Q } := by
  cases r with
  | ok fl S =>
    cases fl with
    | nx ρ => exact fun α' H' e q σ' _ => h.okE e q .non rfl
    | rt v => exact fun α' H' e q w hw => h.okE e q w hw
    | bk ρ => exact h.elim
    | ct ρ => exact h.elim
  | exc x ρ S => exact fun α' H' e q σ' _ c d hx => h α' H' e q c d hx
  | stuck => exact h
theorem RE.start {g : G} {α : List Addr} {H : Hp} {fn : Fn} {N : List Str} {args : List PV} {vs : List V} (h : RVs g.K α H args vs) (hn : fn.ns = N.length) (hl : vs.length ≤ N.length) : RE g α H (startEnv fn args) (L2.start N vs) := by
  have e := h.length
  refine ⟨by simp [startEnv, L2.start, hn, e], fun i v hi => ?_⟩
  unfold startEnv at hi
  by_cases hlt : i < args.length
  · rw [List.getElem?_append_left (by simpa using hlt), List.getElem?_map] at hi
    cases ha : args[i]? with
    | none => rw [ha] at hi; cases hi
    | some x =>
      rw [ha] at hi
      cases hi
      obtain ⟨w, h1, h2⟩ := h.at ha
      refine ⟨w, ?_, h2⟩
      unfold L2.start
      rw [List.getElem?_append_left (by simpa [← e] using hlt), List.getElem?_map, h1]
      rfl
  · rw [List.getElem?_append_right (by simpa using hlt), List.getElem?_replicate] at hi
    split at hi <;> cases hi
section
variable {P : Program} {w : World} {K : PySem.W.Frag} {mg : Str → Option Value} {base : Heap} {T : GT} {tab : Tab} {cl fa : Nat → Addr} {pss : Nat → List Str}
/-- the callees of a level -/
def FnsAt (P : Program) (w : World) (K : PySem.W.Frag) (mg : Str → Option Value) (base : Heap) (tab : Tab) (cl fa : Nat → Addr) (pss : Nat → List Str) (n : Nat) : Prop :=
  ∀ f fn, tab.fns[f]? = some fn → (pss f).length = fn.np ∧ PySem.W.keepIn K (.ref (fa f)) = true ∧ ∃ fd, FnOk P w K mg base (L2.CX P w) n (fa f) fd (pss f) (spOf ⟨K, cl, fa⟩ tab n f fn.np) ∧ Binds K fd (pss f) []
theorem fn_body {n f d : Nat} {fn : Fn} {name qual : Str} {params : Arguments} {body : List Stmt} {scope : Scope} {N ps : List Str} {fd : FuncData} (F : FunD K name qual params body scope [] [] (fa f) fd) (S : FnScope N ps scope)
    (hc : compB T d ⟨scope, N, fun _ => true, true⟩ body = some fn.body) (hf : tab.fns[f]? = some fn) (hnp : fn.np = ps.length) (hns : fn.ns = N.length) (nm : NmOk K w mg T tab cl fa) (ih : FnsAt P w K mg base tab cl fa pss n) (ini : ∀ m, n = m + 1 → FnsAt P w K mg base tab cl fa pss m) :
    FnOk P w K mg base (L2.CX P w) (n + 1) (fa f) fd ps (spOf ⟨K, cl, fa⟩ tab (n + 1) f fn.np) := by
  refine F.ok S (fun vs H Q E h => h.1.trans hnp) (fun cdv A outer s H vs Q E hr hsp => ?_)
  obtain ⟨hl, α, S0, args, r, rv, q⟩ := hsp
  have C : CxOk T tab cl fa pss n (cxOf (L2.CX P w) P w K mg base N qual scope (fa f) cdv A outer s H E) (fun c d _ H => E c d H) :=
    ⟨rfl, S.nd, hr, nm, ih, fun m e f fn hf => let ⟨a, b, fd, F, B⟩ := ini m e f fn hf; ⟨a, fd, F, B⟩, takes_of rfl rfl rfl rfl, passes_of rfl⟩
  have sc : ScOk ⟨scope, N, fun _ => true, true⟩ (cxOf (L2.CX P w) P w K mg base N qual scope (fa f) cdv A outer s H E) := ⟨rfl, rfl, rfl, fun _ => ⟨rfl, rfl⟩⟩
  refine ⟨_, (sndS_all d).b hc C sc, α, S0, startEnv fn args, r, RE.start rv hns ?_, ?_⟩
  · have := congrArg List.length S.pre
    rw [List.length_take] at this
    omega
  · rw [callF_succ, hf] at q
    simp only at q
    rw [if_pos (rv.length.trans hl)] at q
    exact WpS.ret q
/-- what is known of a def of the table -/
def FnI (K : PySem.W.Frag) (T : GT) (tab : Tab) (fa : Nat → Addr) (pss : Nat → List Str) (f : Nat) (fn : Fn) : Prop :=
  ∃ (name qual : Str) (params : Arguments) (body : List Stmt) (scope : Scope) (N : List Str) (fd : FuncData) (d : Nat), FunD K name qual params body scope [] [] (fa f) fd ∧ FnScope N (pss f) scope ∧
    compB T d ⟨scope, N, fun _ => true, true⟩ body = some fn.body ∧ fn.np = (pss f).length ∧ fn.ns = N.length ∧ Binds K fd (pss f) []
theorem fns_all (nm : NmOk K w mg T tab cl fa) (hI : ∀ f fn, tab.fns[f]? = some fn → FnI K T tab fa pss f fn) : ∀ n, FnsAt P w K mg base tab cl fa pss n
  | 0 => fun f fn hf => by
    obtain ⟨name, qual, params, body, scope, N, fd, d, F, S, hc, hnp, hns, B⟩ := hI f fn hf
    refine ⟨hnp.symm, F.kp, fd, ⟨fun vs H Q E h => h.1.trans hnp, fun A outer s H args us vs Q E hr e0 hb hv h => ?_⟩, B⟩
    obtain ⟨_, α, S0, xs, _, _, q⟩ := h
    exact q.elim
  | n + 1 => fun f fn hf => by
    obtain ⟨name, qual, params, body, scope, N, fd, d, F, S, hc, hnp, hns, B⟩ := hI f fn hf
    exact ⟨hnp.symm, F.kp, fd, fn_body F S hc hf hnp hns nm (fns_all nm hI n) (fun m e => by subst e; exact fns_all nm hI m), B⟩
end

/-! ### constants of the module -/
mutual
def uB (K : PySem.W.Frag) : PV → Value → Bool
  | .non, .none => true
  | .bl b, .bool c => b == c
  | .int i, .int j _ => decide (i = j)
  | .str x, .str y _ => decide (toStr x = y)
  | .rot xs, .ref a => (match K.lookup a with
    | some ⟨.type c, _, .seq its _, _⟩ => decide (c = "tuple") && (decide (its.size ≤ sizeLine) && uBs K xs its.toList)
    | _ => false)
  | .rol xs, .ref a => (match K.lookup a with
    | some ⟨.type c, none, .seq its _, _⟩ => decide (c = "list") && (decide (its.size ≤ sizeLine) && uBs K xs its.toList)
    | _ => false)
  | _, _ => false
def uBs (K : PySem.W.Frag) : List PV → List Value → Bool
  | [], [] => true
  | x :: xs, u :: us => uB K x u && uBs K xs us
  | _, _ => false
end
mutual
theorem uB_ok {K : PySem.W.Frag} : ∀ {v : PV} {u : Value}, uB K v u = true → ∃ w, RelV w u ∧ ∀ α H, RV K α H v w
  | .non, u, h => by
    cases u <;> first
      | (simp [uB] at h; done)
      | exact ⟨.non, rfl, fun _ _ => rfl⟩
  | .bl b, u, h => by
    cases u <;> first
      | (simp [uB] at h; done)
      | (simp [uB] at h
         subst h
         exact ⟨.bl _, rfl, fun _ _ => rfl⟩)
  | .int i, u, h => by
    cases u <;> first
      | (simp [uB] at h; done)
      | (simp [uB] at h
         subst h
         exact ⟨.int _, ⟨_, rfl⟩, fun _ _ => rfl⟩)
  | .str x, u, h => by
    cases u <;> first
      | (simp [uB] at h; done)
      | (simp only [uB, decide_eq_true_eq] at h
         subst h
         exact ⟨.str _, ⟨_, rfl⟩, fun _ _ => rfl⟩)
  | .tup xs, u, h => by cases u <;> simp [uB] at h
  | .rot xs, u, h => by
    cases u <;> first
      | (simp [uB] at h; done)
      | skip
    rename_i a
    simp only [uB] at h
    split at h
    · rename_i c dd its n sl hk
      simp only [Bool.and_eq_true, decide_eq_true_eq] at h
      obtain ⟨h1, h2, h3⟩ := h
      subst h1
      obtain ⟨ws, r1, r2⟩ := uBs_ok h3
      exact ⟨.ref a, rfl, fun α H => ⟨a, ws, rfl, .inr ⟨_, its, n, hk, rfl, rfl, h2, r1⟩, r2 α H⟩⟩
    · cases h
  | .rol xs, u, h => by
    cases u <;> first
      | (simp [uB] at h; done)
      | skip
    rename_i a
    simp only [uB] at h
    split at h
    · rename_i c its n sl hk
      simp only [Bool.and_eq_true, decide_eq_true_eq] at h
      obtain ⟨h1, h2, h3⟩ := h
      subst h1
      obtain ⟨ws, r1, r2⟩ := uBs_ok h3
      exact ⟨.ref a, rfl, fun α H => ⟨a, ws, rfl, .inr ⟨_, its, n, hk, rfl, rfl, rfl, h2, r1⟩, r2 α H⟩⟩
    · cases h
  | .ref p, u, h => by cases u <;> simp [uB] at h
theorem uBs_ok {K : PySem.W.Frag} : ∀ {vs : List PV} {us : List Value}, uBs K vs us = true → ∃ ws, Vals ws us ∧ ∀ α H, RVs K α H vs ws
  | [], [], _ => ⟨[], .nil, fun _ _ => rfl⟩
  | [], _ :: _, h => by simp [uBs] at h
  | _ :: _, [], h => by simp [uBs] at h
  | v :: vs, u :: us, h => by
    simp only [uBs, Bool.and_eq_true] at h
    obtain ⟨w, r1, r2⟩ := uB_ok h.1
    obtain ⟨ws, q1, q2⟩ := uBs_ok h.2
    exact ⟨w :: ws, .cons r1 q1, fun α H => ⟨w, ws, rfl, r2 α H, q2 α H⟩⟩
end
/-- the module's name x stands for v -/
def gB (K : PySem.W.Frag) (x : Str) (v : PV) : Bool := match PySem.W.nsIn K mainGlobals x with
  | some (some u) => uB K v u
  | _ => false
theorem gB_ok {K : PySem.W.Frag} {h : Heap} {mg : Str → Option Value} (X : K.In h) (Gn : h.Ns mainGlobals mg) {x : Str} {v : PV} (c : gB K x v = true) : ∃ u w, mg x = some u ∧ RelV w u ∧ ∀ α H, RV K α H v w := by
  unfold gB at c
  cases e : PySem.W.nsIn K mainGlobals x with
  | none => rw [e] at c; cases c
  | some o =>
    rw [e] at c
    cases o with
    | none => cases c
    | some u =>
      obtain ⟨w, r1, r2⟩ := uB_ok c
      exact ⟨u, w, PySem.W.mg_of X Gn e, r1, r2⟩

/-! ### a law's data -/
/-- a def of the text: where it stands, its text, its slots, what it is in the interpreter -/
structure FnS where
  d : He.DefD
  N : List Str
  ps : List Str
  fn : Fn
def scB (s : FnS) : Bool := (match s.d.scope.kind with | .function => true | _ => false) && (!s.d.scope.isCoroutine && (!s.d.scope.isGenerator && (decide s.N.Nodup && (decide (s.N.take s.ps.length = s.ps) &&
  ((s.ps.all fun x => match s.d.scope.names.lookup x with | some .local => true | some .cell => true | _ => false) && (s.d.scope.names.all fun y => match y.2 with | .free => false | _ => true))))))
theorem scB_ok {s : FnS} (h : scB s = true) : FnScope s.N s.ps s.d.scope := by
  unfold scB at h
  simp only [Bool.and_eq_true, decide_eq_true_eq, Bool.not_eq_true', List.all_eq_true] at h
  obtain ⟨h1, h2, h3, h4, h5, h6, h7⟩ := h
  refine ⟨?_, h2, h3, h4, h5, fun x hx => ?_, fun y hy => ?_⟩
  · split at h1
    · assumption
    · cases h1
  · have := h6 x hx
    split at this
    · rename_i e; exact .inl e
    · rename_i e; exact .inr e
    · cases this
  · have := h7 y hy
    intro e
    rw [e] at this
    cases this
structure LawD where
  T : GT
  tab : Tab
  fs : List FnS
  /-- the constants, by name, in the order of tab.glob -/
  gl : List (Str × PV)
  /-- the classes' names, by number -/
  cn : List Str := []
  /-- the constant dicts -/
  kd : List (Str × List (Sy × PV)) := []
def LawD.nm (L : LawD) (c : Nat) : Str := match L.cn[c]? with
  | some x => x
  | none => ""
def LawD.cl (L : LawD) (K : PySem.W.Frag) (c : Nat) : Addr := He.ga K (L.nm c)
/-- what is asked of the classes -/
def LawD.fc (L : LawD) : List He.Fa := L.T.cls.map (fun q => .glo q.1) ++ (L.T.exc.map (fun q => .glo q.1) ++ (L.T.exc.map (fun q => .exc q.1) ++ (L.tab.meths.map (fun q => .cls (L.nm q.1)) ++ (L.tab.meths.map (fun q => .meth (L.nm q.1) (toStr q.2.1)) ++
  (L.tab.attrs.map (fun q => .cls (L.nm q.1)) ++ (L.tab.attrs.flatMap (fun q => q.2.map fun f => .noat (L.nm q.1) (toStr f)) ++ L.tab.inits.map (fun q => .mkr (L.nm q.1))))))))
def LawD.clsB (L : LawD) : Bool := (L.T.cls.all fun q => decide (L.nm q.2 = q.1) && (L.tab.inits.lookup q.2).isSome) && ((L.T.exc.all fun q => decide (L.nm q.2 = q.1)) &&
  ((L.tab.meths.all fun q => match L.fs[q.2.2]? with | some s => decide (s.d.at_ = (L.nm q.1, some (toStr q.2.1))) | none => false) &&
  ((L.tab.inits.all fun q => match L.fs[q.2]? with | some s => decide (s.d.at_ = (L.nm q.1, some ("__init__" : Str))) | none => false) && (L.T.ms.all fun m => L.tab.meths.any fun q => decide (q.2.1 = m)))))
def bnames : List Str := ["len", "abs", "int", "list", "tuple", "all", "any", "min", "max", "str", "bool", "isinstance", "range", "enumerate", "set", "sorted", "zip", "reversed"]
def LawD.fa (L : LawD) : List He.Fa := (L.fs.filterMap fun s => match s.d.at_.2 with | none => some (He.Fa.glo s.d.at_.1) | some _ => none) ++ (bnames.map He.Fa.free ++ (L.fc ++ L.kd.map fun q => He.Fa.glo q.1))
/-- what isinstance, except ask of an exception class -/
def excCB (K : PySem.W.Frag) (D : Addr) : Bool := He.eqO (PySem.W.findIn K (.ref D) "__getattribute__") (some (some (.builtin "BaseException.__getattribute__"))) && (He.eqO (PySem.W.findIn K (.ref D) "__getattr__") (some none) &&
  (decide (PySem.W.subIn K (.ref D) (.type "BaseException") = some true) && (PySem.W.hasDictIn K D && (He.eqO (PySem.W.findIn K (.ref D) "__class__") (some (some (.builtin "object.__class__"))) &&
  (He.eqO (PySem.W.specialIn K (.builtin "object.__class__") "__get__") (some (some (.builtin "getset_descriptor.__get__"))) && (decide (PySem.W.takesIn K (.builtin "object.__class__") = some true) && decide (PySem.W.mroIn K D (.type "object") = some true)))))))
theorem excCB_ok {K : PySem.W.Frag} {D : Addr} (h : excCB K D = true) : ExcC K D := by
  unfold excCB at h
  simp only [Bool.and_eq_true, decide_eq_true_eq] at h
  obtain ⟨h1, h2, h3, h4, h5, h6, h7, h8⟩ := h
  exact ⟨He.eqO_ok h1, He.eqO_ok h2, h3, h4, He.eqO_ok h5, He.eqO_ok h6, h7, h8⟩
def LawD.exB (L : LawD) (K : PySem.W.Frag) : Bool := L.tab.xs.all fun k => excCB K (L.cl K k) && L.tab.xs.all fun j => decide (PySem.W.exmOne K (.ref (L.cl K k)) (.ref (L.cl K j)) = some (L.tab.sub.any fun q => q.1 == k && q.2 == j)) &&
  decide (PySem.W.kitOne K (.ref (L.cl K k)) (.ref (L.cl K j)) = some (L.tab.sub.any fun q => q.1 == k && q.2 == j))
/-- the constant dicts' values -/
def LawD.kdB (L : LawD) (K : PySem.W.Frag) : Bool := L.kd.all fun q => q.2.all fun z => match PySem.W.nsIn K (He.ga K q.1) (toStr z.1) with
  | some (some u) => uB K z.2 u
  | _ => false
def LawD.ts (L : LawD) : List He.Tab := L.kd.map fun q => (fun K => He.ga K q.1, q.2.map fun z => toStr z.1)
def LawD.ex (L : LawD) (K : PySem.W.Frag) : Bool := (L.gl.all fun q => gB K q.1 q.2) && (L.exB K && L.kdB K)
/-- the function table's addresses -/
def LawD.fad (L : LawD) (K : PySem.W.Frag) (i : Nat) : Addr := match L.fs[i]? with
  | some s => He.fAd K s.d.at_
  | none => 0
def LawD.pss (L : LawD) (i : Nat) : List Str := match L.fs[i]? with
  | some s => s.ps
  | none => []
def fnC (T : GT) (d : Nat) (s : FnS) : Bool := scB s && (decide (s.fn.np = s.ps.length) && decide (s.fn.ns = s.N.length))
/-- what is checked of the data -/
structure LawD.Ok (L : LawD) (d : Nat) : Prop where
  fns : L.tab.fns = L.fs.map (·.fn)
  glob : L.tab.glob = L.gl.map (·.2)
  T_glob : L.T.glob = (L.gl.map (·.1)).zipIdx
  cls : L.clsB = true
  kds : L.tab.kds = L.kd.map (·.2)
  T_kds : L.T.kds = (L.kd.map (·.1)).zipIdx
  T_fns : ∀ x f, L.T.fns.lookup x = some f → ∃ s, L.fs[f]? = some s ∧ s.d.at_ = (x, none)
  sc : ∀ s ∈ L.fs, scB s = true ∧ s.fn.np = s.ps.length ∧ s.fn.ns = s.N.length ∧ s.d.dfl = [] ∧ s.d.kwd = []
  comp : ∀ s ∈ L.fs, compB L.T d ⟨s.d.scope, s.N, fun _ => true, true⟩ s.d.body = some s.fn.body
  binds : ∀ s ∈ L.fs, ∀ (kV doc pm : Value) (an : Option Addr) (cdv ct : Value) (us : List Value), us.length = s.ps.length → bindArgs (PySem.W.fnOf s.d.name s.d.qual s.d.params s.d.body s.d.scope .none kV doc pm an cdv ct) ⟨us, []⟩ = pure (s.ps.zip us)
theorem zipIdx_lookup {α : Type} [BEq α] [LawfulBEq α] : ∀ {l : List α} {x : α} {k j : Nat}, (l.zipIdx j).lookup x = some k → ∃ i, k = j + i ∧ l[i]? = some x
  | [], _, _, _, h => by cases h
  | y :: r, x, k, j, h => by
    rw [List.zipIdx_cons, List.lookup_cons] at h
    split at h
    · rename_i e
      cases h
      exact ⟨0, rfl, by simp [eq_of_beq e]⟩
    · obtain ⟨i, h1, h2⟩ := zipIdx_lookup h
      exact ⟨i + 1, by omega, by simpa using h2⟩
section
variable {L : LawD} {d : Nat} {K : PySem.W.Frag} {h : Heap} {mg : Str → Option Value}
theorem fact_mem {fa : List He.Fa} {fn : List He.DefD} (c : He.SaysD fa fn K) {f : He.Fa} (hf : f ∈ fa) : f.ok K = true := c.facts hf
theorem fc_mem {f : He.Fa} (hf : f ∈ L.fc) : f ∈ L.fa := List.mem_append_right _ (List.mem_append_right _ (List.mem_append_left _ hf))
theorem fad_of {i : Nat} {s : FnS} (h : L.fs[i]? = some s) (K : PySem.W.Frag) : L.fad K i = He.fAd K s.d.at_ := by unfold LawD.fad; rw [h]
theorem lookup_mem {α β : Type} [BEq α] [LawfulBEq α] {x : α} {b : β} : ∀ {l : List (α × β)}, l.lookup x = some b → (x, b) ∈ l
  | [], h => by cases h
  | (y, v) :: r, h => by
    rw [List.lookup_cons] at h
    split at h
    · rename_i e
      cases h
      rw [eq_of_beq e]
      exact List.mem_cons_self
    · exact List.mem_cons_of_mem _ (lookup_mem h)
theorem lookF_mem {z : Sy} {v : PV} : ∀ {l : List (Sy × PV)}, lookF z l = some v → (z, v) ∈ l
  | [], h => by cases h
  | (y, x) :: r, h => by
    unfold lookF at h
    split at h
    · rename_i e
      cases h
      subst e
      exact List.mem_cons_self
    · exact List.mem_cons_of_mem _ (lookF_mem h)
theorem meth_mem {c f : Nat} {m : Sy} (h : methOf L.tab c m = some f) : (c, m, f) ∈ L.tab.meths := by
  unfold methOf at h
  simp only [Option.map_eq_some_iff] at h
  obtain ⟨⟨c', m', f'⟩, h1, h2⟩ := h
  have h3 := List.find?_some h1
  have h4 := List.mem_of_find?_eq_some h1
  simp only [Bool.and_eq_true, beq_iff_eq, decide_eq_true_eq] at h3
  obtain ⟨rfl, rfl⟩ := h3
  subst h2
  exact h4
theorem law_nm (O : L.Ok d) (X : K.In h) (Gn : h.Ns mainGlobals mg) (c : He.SaysD L.fa (L.fs.map (·.d)) K) (e : L.ex K = true) {w : World} (tb : ∀ q ∈ L.kd, ∃ es n, KDict K w (He.ga K q.1) es n) : NmOk K w mg L.T L.tab (L.cl K) (L.fad K) := by
  have free : ∀ x ∈ bnames, mg x = none := fun x hx => He.free_ok X Gn (fact_mem c (List.mem_append_right _ (List.mem_append_left _ (List.mem_map.mpr ⟨x, hx, rfl⟩))))
  have e1 : (L.gl.all fun q => gB K q.1 q.2) = true := (Bool.and_eq_true_iff.mp e).1
  have e2 : L.exB K = true := (Bool.and_eq_true_iff.mp (Bool.and_eq_true_iff.mp e).2).1
  have e3 : L.kdB K = true := (Bool.and_eq_true_iff.mp (Bool.and_eq_true_iff.mp e).2).2
  have ex1 : ∀ k ∈ L.tab.xs, ExcC K (L.cl K k) := fun k hk => by
    have := List.all_eq_true.mp e2 k hk
    simp only [Bool.and_eq_true] at this
    exact excCB_ok this.1
  have ex2 : ∀ k j, k ∈ L.tab.xs → j ∈ L.tab.xs → PySem.W.exmOne K (.ref (L.cl K k)) (.ref (L.cl K j)) = some (L.tab.sub.any fun q => q.1 == k && q.2 == j) ∧ PySem.W.kitOne K (.ref (L.cl K k)) (.ref (L.cl K j)) = some (L.tab.sub.any fun q => q.1 == k && q.2 == j) := fun k j hk hj => by
    have := List.all_eq_true.mp e2 k hk
    simp only [Bool.and_eq_true] at this
    have := List.all_eq_true.mp this.2 j hj
    simp only [Bool.and_eq_true, decide_eq_true_eq] at this
    exact this
  have hc := O.cls
  unfold LawD.clsB at hc
  simp only [Bool.and_eq_true, List.all_eq_true, decide_eq_true_eq] at hc
  obtain ⟨c1, c2, c3, c4, c5⟩ := hc
  have fl : L.tab.fns.length = L.fs.length := by rw [O.fns, List.length_map]
  refine ⟨fun x k hk => ?_, fun x f hf => ?_, fun b => free _ ?_, fun t => free _ ?_, free _ (by simp [bnames]), free _ (by simp [bnames]), free _ (by simp [bnames]), fun x k hk => ?_, fun m hm => ?_, free _ (by simp [bnames]), free _ (by simp [bnames]), fun x k hk => ?_, free _ (by simp [bnames]), ex1, ex2, fun x k hk => ?_,
    fun k m f hf => ?_, fun k f hf => ?_, fun k f hf => ?_⟩
  · rw [O.T_glob] at hk
    obtain ⟨i, h1, h2⟩ := zipIdx_lookup hk
    have h1 : k = i := by omega
    subst h1
    rw [List.getElem?_map, Option.map_eq_some_iff] at h2
    obtain ⟨q, h3, rfl⟩ := h2
    obtain ⟨u, w, a1, a2, a3⟩ := gB_ok X Gn (List.all_eq_true.mp e1 q (List.mem_of_getElem? h3))
    exact ⟨q.2, u, w, by rw [O.glob, List.getElem?_map, h3]; rfl, a1, a2, a3⟩
  · obtain ⟨s, h1, h2⟩ := O.T_fns x f hf
    refine ⟨?_, ?_⟩
    · have hm : He.Fa.glo x ∈ L.fa := List.mem_append_left _ (List.mem_filterMap.mpr ⟨s, List.mem_of_getElem? h1, by rw [h2]⟩)
      have := He.glo_ok X Gn (fact_mem c hm)
      rw [this]
      unfold LawD.fad
      rw [h1]
      show some (Value.ref (He.ga K x)) = some (.ref (He.fAd K s.d.at_))
      rw [h2]
      rfl
    · rw [O.fns, List.length_map]
      exact (List.getElem?_eq_some_iff.mp h1).1
  · cases b <;> simp [bfN, bnames]
  · cases t <;> simp [tyN, bnames]
  · have hm := PySem.mem_of_lookup hk
    have en := c2 _ hm
    have g1 := He.glo_ok X Gn (fact_mem c (fc_mem (L := L) (f := .glo x) (by unfold LawD.fc; exact List.mem_append_right _ (List.mem_append_left _ (List.mem_map.mpr ⟨_, hm, rfl⟩)))))
    obtain ⟨g2, g3, g4, g5⟩ := He.exc_ok (fact_mem c (fc_mem (L := L) (f := .exc x) (by unfold LawD.fc; exact List.mem_append_right _ (List.mem_append_right _ (List.mem_append_left _ (List.mem_map.mpr ⟨_, hm, rfl⟩))))))
    have ea : L.cl K k = He.ga K x := by unfold LawD.cl; rw [en]
    rw [ea]
    exact ⟨g1, g2, g3, g4, g5⟩
  · obtain ⟨⟨k, m', f⟩, h1, h2⟩ := List.any_eq_true.mp (c5 m hm)
    simp only [decide_eq_true_eq] at h2
    subst h2
    have hs : (L.tab.meths.find? fun q => q.1 == k && decide (q.2.1 = m')).isSome = true := List.find?_isSome.mpr ⟨_, h1, by simp⟩
    obtain ⟨q, hq⟩ := Option.isSome_iff_exists.mp hs
    have hf : methOf L.tab k m' = some q.2.2 := by unfold methOf; rw [hq]; rfl
    have h3 := c3 _ (meth_mem hf)
    simp only at h3
    split at h3
    · rename_i s hs
      exact ⟨k, q.2.2, s.fn, hf, by rw [O.fns, List.getElem?_map, hs]; rfl⟩
    · cases h3
  · rw [O.T_kds] at hk
    obtain ⟨i, h1, h2⟩ := zipIdx_lookup hk
    have h1 : k = i := by omega
    subst h1
    rw [List.getElem?_map, Option.map_eq_some_iff] at h2
    obtain ⟨q, h3, rfl⟩ := h2
    have hq := List.mem_of_getElem? h3
    refine ⟨q.2, He.ga K q.1, by rw [O.kds, List.getElem?_map, h3]; rfl, He.glo_ok X Gn (fact_mem c (List.mem_append_right _ (List.mem_append_right _ (List.mem_append_right _ (List.mem_map.mpr ⟨q, hq, rfl⟩))))), fun z v hz => ?_⟩
    have hm := lookF_mem hz
    have := List.all_eq_true.mp (List.all_eq_true.mp e3 q hq) (z, v) hm
    simp only at this
    split at this
    · rename_i u hu
      obtain ⟨w0, a1, a2⟩ := uB_ok this
      obtain ⟨es, nn, D⟩ := tb q hq
      exact ⟨w0, ⟨es, nn, u, D.at_, D.lit, hu, a1⟩, a2⟩
    · cases this
  · have hm := PySem.mem_of_lookup hk
    obtain ⟨en, hi⟩ := c1 _ hm
    have g1 := He.glo_ok X Gn (fact_mem c (fc_mem (L := L) (f := .glo x) (by unfold LawD.fc; exact List.mem_append_left _ (List.mem_map.mpr ⟨_, hm, rfl⟩))))
    have ea : L.cl K k = He.ga K x := by unfold LawD.cl; rw [en]
    rw [ea]
    exact ⟨g1, Option.isSome_iff_exists.mp hi⟩
  · have hm := meth_mem hf
    have h3 := c3 _ hm
    simp only at h3
    split at h3
    · rename_i s hs
      have e1 := of_decide_eq_true h3
      have g1 := He.cls_ok (fact_mem c (fc_mem (L := L) (f := .cls (L.nm k)) (by unfold LawD.fc; exact List.mem_append_right _ (List.mem_append_right _ (List.mem_append_right _ (List.mem_append_left _ (List.mem_map.mpr ⟨_, hm, rfl⟩)))))))
      have g2 := He.meth_ok (fact_mem c (fc_mem (L := L) (f := .meth (L.nm k) (toStr m)) (by unfold LawD.fc; exact List.mem_append_right _ (List.mem_append_right _ (List.mem_append_right _ (List.mem_append_right _ (List.mem_append_left _ (List.mem_map.mpr ⟨_, hm, rfl⟩))))))))
      have ef : L.fad K f = He.ma K (He.ga K (L.nm k)) (toStr m) := by
        rw [fad_of hs, e1]
        rfl
      rw [ef]
      exact ⟨g1, g2, by rw [fl]; exact (List.getElem?_eq_some_iff.mp hs).1⟩
    · cases h3
  · unfold isAttr at hf
    obtain ⟨⟨k', fs⟩, h1, h2⟩ := List.any_eq_true.mp hf
    simp only [Bool.and_eq_true, beq_iff_eq] at h2
    obtain ⟨rfl, h3⟩ := h2
    have h3 : f ∈ fs := by simpa using h3
    have g1 := He.cls_ok (fact_mem c (fc_mem (L := L) (f := .cls (L.nm k')) (by unfold LawD.fc; exact List.mem_append_right _ (List.mem_append_right _ (List.mem_append_right _ (List.mem_append_right _ (List.mem_append_right _ (List.mem_append_left _ (List.mem_map.mpr ⟨_, h1, rfl⟩)))))))))
    have g2 := He.noat_ok (fact_mem c (fc_mem (L := L) (f := .noat (L.nm k') (toStr f)) (by unfold LawD.fc; exact List.mem_append_right _ (List.mem_append_right _ (List.mem_append_right _ (List.mem_append_right _ (List.mem_append_right _ (List.mem_append_right _ (List.mem_append_left _ (List.mem_flatMap.mpr ⟨_, h1, List.mem_map.mpr ⟨f, h3, rfl⟩⟩))))))))))
    exact ⟨g1, g2⟩
  · have hm := lookup_mem hf
    have h3 := c4 _ hm
    simp only at h3
    split at h3
    · rename_i s hs
      have e1 := of_decide_eq_true h3
      have g1 := He.mkr_ok (fact_mem c (fc_mem (L := L) (f := .mkr (L.nm k)) (by unfold LawD.fc; exact List.mem_append_right _ (List.mem_append_right _ (List.mem_append_right _ (List.mem_append_right _ (List.mem_append_right _ (List.mem_append_right _ (List.mem_append_right _ (List.mem_map.mpr ⟨_, hm, rfl⟩))))))))))
      have ef : L.fad K f = He.ma K (He.ga K (L.nm k)) "__init__" := by
        rw [fad_of hs, e1]
        rfl
      rw [ef]
      exact ⟨g1, by rw [fl]; exact (List.getElem?_eq_some_iff.mp hs).1⟩
    · cases h3
theorem law_fni (O : L.Ok d) (c : He.SaysD L.fa (L.fs.map (·.d)) K) (f : Nat) (fn : Fn) (hf : L.tab.fns[f]? = some fn) : FnI K L.T L.tab (L.fad K) L.pss f fn := by
  rw [O.fns, List.getElem?_map, Option.map_eq_some_iff] at hf
  obtain ⟨s, hs, rfl⟩ := hf
  have hm := List.mem_of_getElem? hs
  obtain ⟨q1, q2, q3, q4, q5⟩ := O.sc s hm
  obtain ⟨fd, F⟩ := c.def_ f (d := s.d) (by rw [List.getElem?_map, hs]; rfl)
  have e1 : L.fad K f = He.fAd K s.d.at_ := by unfold LawD.fad; rw [hs]
  have e2 : L.pss f = s.ps := by unfold LawD.pss; rw [hs]
  have F : FunD K s.d.name s.d.qual s.d.params s.d.body s.d.scope [] [] (He.fAd K s.d.at_) fd := by
    have h1 : s.d.dvs K = [] := by unfold He.DefD.dvs; rw [q4]; rfl
    have h2 : s.d.kws K = [] := by unfold He.DefD.kws; rw [q5]; rfl
    rw [h1, h2] at F
    exact F
  refine ⟨s.d.name, s.d.qual, s.d.params, s.d.body, s.d.scope, s.N, fd, d, ?_, ?_, O.comp s hm, ?_, q3, ?_⟩
  · rw [e1]; exact F
  · rw [e2]; exact scB_ok q1
  · rw [e2]; exact q2
  · rw [e2]
    exact F.bindsN (O.binds s hm)
/-- the law's own promise: True comes out -/
def spLaw (K : PySem.W.Frag) : Sp := fun vs H Q _ => ∃ (a : Addr) (ns : List Int), vs = [.ref a] ∧ SqC K H a (ns.map V.int) ∧ ns.length ≤ 63 ∧ ∀ H', Q (.bl true) H'
theorem rvs_ints {α : List Addr} {H : Hp} : ∀ ns : List Int, RVs K α H (ns.map PV.int) (ns.map V.int)
  | [] => rfl
  | i :: ns => ⟨.int i, ns.map V.int, rfl, rfl, rvs_ints ns⟩
theorem law_sp {tab : Tab} {cl fa : Nat → Addr} {n f : Nat} (hl : ∀ ns : List Int, ns.length ≤ 63 → ∃ S, callF tab n f [.rol (ns.map .int)] [] = .ok (.bl true) S) (vs : List V) (H : Hp) (Q : VK) (E : XK) (h : spLaw K vs H Q E) : spOf ⟨K, cl, fa⟩ tab n f 1 vs H Q E := by
  obtain ⟨a, ns, rfl, s1, h1, q⟩ := h
  refine ⟨rfl, [], [], [.rol (ns.map .int)], ⟨rfl, List.nodup_nil, fun n o h => by simp at h⟩, ⟨.ref a, [], rfl, ⟨a, _, rfl, s1, rvs_ints ns⟩, rfl⟩, ?_⟩
  obtain ⟨S, hS⟩ := hl ns h1
  rw [hS]
  intro α' H' e r w hw
  cases hw
  exact q H'
end
end L3
set_option maxRecDepth 100000
/-! L3End: the law's walk. -/
namespace L3
open PySem PySem.Spec PyProof.Rows L2
theorem walk_ofEw {l : PySem.W.OpenLaw} {n k : Nat} {q : Program} {loose : List Str} {XP : (Str → Option Value) → Heap → Prop} {YP : World → Heap → Prop} {d : DefRec} {CX : World → CXT} {x : Str}
    (hn : l.most = some n) (hn2 : n ≤ sizeLine) (hdf : d.params.defaults = []) (hr : Room k callerA)
    (F : ∀ (w : World) (mg : Str → Option Value) (fa : Addr) (h : Heap), YP w h → h.Ns mainGlobals mg → mg d.name = some (.ref fa) →
      ∃ (K : PySem.W.Frag) (fd : FuncData) (sp : Sp), K.In h ∧ (∀ (s : Shared) (u : Value), BindsTo s fd ⟨[u], []⟩ [(x, u)]) ∧
        (∀ (H : Hp) (a : Addr) (ns : List Int), ns.length ≤ n → Only H → SqL K H a (ns.map V.int) → sp [.ref a] H (fun v _ => v = .bl true) fun _ _ _ => False) ∧
        ∀ base : Heap, K.In base → base.Ns mainGlobals mg → FnOk l.prog w K mg base (CX w) k fa fd [x] sp)
    (hCX : ∀ (w : World) (H : Hp) (s : Shared) (e : Value) (s' : Shared), CX w [] H s (fun _ _ _ => False) e s' → False) :
    PySem.W.WalkO q loose XP YP l.row.toRowW d [] (fun f vs => PySem.call f vs) := by
  refine Att.attach_call hn hdf fun w s₀ s₁ mg mb fa o pm cd doc a vs ns G Y ho hd hcd hmg hobj hints hlen hg => ?_
  obtain ⟨K, fd, sp, KX, hb, hsp, hF⟩ := F w mg fa _ Y G.T.g hmg
  exact law_call KX G.T.g G.T.b G.T.builtins G.T.nolimit hg hobj hints (Nat.le_trans hlen hn2) hr hF hb (fun H hO hS => hsp H a ns hlen hO hS) fun H e s' => hCX w H s₁ e s'
theorem sqC_of {K : PySem.W.Frag} {H : Hp} {a : Addr} {xs : List V} (o : Only H) (h : SqL K H a xs) : SqC K H a xs := by
  rcases h with (h | ⟨ob, h⟩) | h
  · rcases o a with z | ⟨ob, ys, z⟩
    · rw [z] at h; cases h
    · rw [z] at h; cases h
  · exact .inl ⟨ob, h⟩
  · exact .inr h
theorem law_walk {l : PySem.W.OpenLaw} {q : Program} {loose : List Str} {XP : (Str → Option Value) → Heap → Prop} {dr : DefRec} {L : LawD} {dep N li hn : Nat} {s : FnS} {x : Str} (O : L.Ok dep) (hli : L.fs[li]? = some s) (hat : s.d.at_ = (("law" : Str), (none : Option Str))) (hps : s.ps = [x])
    (hm : l.most = some 63) (hdf : dr.params.defaults = []) (hname : dr.name = ("law" : Str)) (hr : Room N callerA)
    (hl : ∀ ns : List Int, ns.length ≤ 63 → ∃ S, callF L.tab N li [.rol (ns.map .int)] [] = .ok (.bl true) S) :
    PySem.W.WalkO q loose XP (He.hookX hn L.fa (L.fs.map (·.d)) L.ts [] L.ex).says l.row.toRowW dr [] (fun f vs => PySem.call f vs) := by
  refine walk_ofEw (n := 63) (k := N) (x := x) (CX := fun w => L2.CX l.prog w) hm (by decide) hdf hr (fun w mg fa h Y Gn hmg => ?_) fun w H s0 e s' z => ?_
  · obtain ⟨K, KX, c⟩ := Y
    have cd := c.t.d
    have nm := law_nm O KX Gn cd c.more (w := w) fun q hq => by
      obtain ⟨i, hi, e⟩ := List.mem_iff_getElem.mp hq
      exact c.t.tab i (t := (fun K => He.ga K q.1, q.2.map fun z => toStr z.1)) (by unfold LawD.ts; rw [List.getElem?_map, List.getElem?_eq_getElem hi, e]; rfl)
    have hI := law_fni O cd
    have hf : L.tab.fns[li]? = some s.fn := by rw [O.fns, List.getElem?_map, hli]; rfl
    have hm := List.mem_of_getElem? hli
    obtain ⟨q1, q2, q3, q4, q5⟩ := O.sc s hm
    have e1 : L.fad K li = He.ga K "law" := by
      unfold LawD.fad
      rw [hli]
      show He.fAd K s.d.at_ = _
      rw [hat]
      rfl
    have e2 : L.pss li = [x] := by unfold LawD.pss; rw [hli]; exact hps
    have hg : mg "law" = some (.ref (He.ga K "law")) := He.glo_ok KX Gn (fact_mem cd (List.mem_append_left _ (List.mem_filterMap.mpr ⟨s, hm, by rw [hat]⟩)))
    have efa : fa = He.ga K "law" := by
      rw [hname] at hmg
      exact Value.ref.inj (Option.some.inj (hmg.symm.trans hg))
    subst efa
    obtain ⟨fd, F⟩ := cd.def_ li (d := s.d) (by rw [List.getElem?_map, hli]; rfl)
    have F : FunD K s.d.name s.d.qual s.d.params s.d.body s.d.scope [] [] (He.ga K "law") fd := by
      have h1 : s.d.dvs K = [] := by unfold He.DefD.dvs; rw [q4]; rfl
      have h2 : s.d.kws K = [] := by unfold He.DefD.kws; rw [q5]; rfl
      rw [h1, h2] at F
      have h3 : He.fAd K s.d.at_ = He.ga K "law" := by rw [hat]; rfl
      rw [h3] at F
      exact F
    have b := FunD.bindsA (ps := s.ps) F (O.binds s hm)
    refine ⟨K, fd, spLaw K, KX, fun s1 u => ?_, fun H a ns hlen hO hS => ⟨a, ns, rfl, sqC_of hO hS, hlen, fun _ => rfl⟩, fun base KB GB => ?_⟩
    · have := b s1 [u] (by rw [hps]; rfl)
      rw [hps] at this
      exact this
    · cases N with
      | zero =>
        obtain ⟨S, hS⟩ := hl [] (by decide)
        cases hS
      | succ N =>
        have body := fn_body (P := l.prog) (w := w) (mg := mg) (base := base) (cl := L.cl K) (n := N) (f := li) (fn := s.fn) (by rw [e1]; exact F) (scB_ok q1) (O.comp s hm) hf q2 q3 nm (fns_all nm hI N) (fun m e => fns_all nm hI m)
        rw [e1] at body
        rw [hps] at body
        refine body.imp fun vs H Q E h => ?_
        have e3 : s.fn.np = 1 := by rw [q2, hps]; rfl
        rw [e3]
        exact law_sp hl vs H Q E h
  · obtain ⟨_, _, _, _, _, _, _, _, _, _, _, _, z⟩ := z
    exact z
theorem alln {α : Type} {P : α → Prop} : ∀ s ∈ ([] : List α), P s := fun s hs => by cases hs
theorem allc {α : Type} {P : α → Prop} {a : α} {l : List α} (h : P a) (t : ∀ s ∈ l, P s) : ∀ s ∈ a :: l, P s := fun s hs => by
  rcases List.mem_cons.mp hs with e | hs
  · rw [e]; exact h
  · exact t s hs
def fnsB (L : LawD) : Bool := L.T.fns.all fun q => match L.fs[q.2]? with
  | some s => decide (s.d.at_ = (q.1, none))
  | none => false
theorem fns_ok {L : LawD} (h : fnsB L = true) : ∀ x f, L.T.fns.lookup x = some f → ∃ s, L.fs[f]? = some s ∧ s.d.at_ = (x, none) := fun x f hf => by
  have hm := PySem.mem_of_lookup hf
  have := List.all_eq_true.mp h (x, f) hm
  simp only at this
  split at this
  · rename_i s hs
    exact ⟨s, hs, of_decide_eq_true this⟩
  · cases this
def scAll (L : LawD) : Bool := L.fs.all fun s => scB s && (decide (s.fn.np = s.ps.length) && (decide (s.fn.ns = s.N.length) && (s.d.dfl.isEmpty && s.d.kwd.isEmpty)))
theorem sc_ok {L : LawD} (h : scAll L = true) : ∀ s ∈ L.fs, scB s = true ∧ s.fn.np = s.ps.length ∧ s.fn.ns = s.N.length ∧ s.d.dfl = [] ∧ s.d.kwd = [] := fun s hs => by
  have := List.all_eq_true.mp h s hs
  simp only [Bool.and_eq_true, decide_eq_true_eq, List.isEmpty_iff] at this
  exact ⟨this.1, this.2.1, this.2.2.1, this.2.2.2.1, this.2.2.2.2⟩
end L3
/-! L3Wp: what a run of the interpreter comes to; loops by invariants. -/
namespace L3
variable {α β : Type}
def Wq (r : R α) (P : α → Store → Prop) (E : Exn → Store → Prop) : Prop := match r with
  | .ok a S => P a S
  | .exc x S => E x S
  | .stuck => False
def Ws (r : RS) (K : Fl → Store → Prop) (E : Exn → Env → Store → Prop) : Prop := match r with
  | .ok fl S => K fl S
  | .exc x ρ S => E x ρ S
  | .stuck => False
abbrev NoX : Exn → Store → Prop := fun _ _ => False
abbrev NoXS : Exn → Env → Store → Prop := fun _ _ _ => False
section
variable {r : R α} {P P' : α → Store → Prop} {E E' : Exn → Store → Prop}
theorem Wq_ok {a : α} {S : Store} : Wq (.ok a S) P E = P a S := (rfl)
theorem Wq_stuck : Wq (.stuck : R α) P E = False := (rfl)
theorem Wq_exc {x : Exn} {S : Store} : Wq (.exc x S : R α) P E = E x S := (rfl)
theorem Wq_bind {f : α → Store → R β} {Q : β → Store → Prop} : Wq (r.bind f) Q E = Wq r (fun a S => Wq (f a S) Q E) E := by cases r <;> rfl
theorem Wq_nox : Wq r.nox P E = Wq r P NoX := by cases r <;> rfl
theorem Wq_ofO {o : Option α} {S : Store} : Wq (ofO o S) P E = ∃ a, o = some a ∧ P a S := by
  cases o <;> simp [ofO, Wq]
theorem Wq_ite {c : Prop} [Decidable c] {q : R α} : Wq (if c then r else q) P E = if c then Wq r P E else Wq q P E := by split <;> rfl
theorem Wq.mono (h : Wq r P E) (hp : ∀ a S, P a S → P' a S) (he : ∀ x S, E x S → E' x S) : Wq r P' E' := by
  cases r with
  | ok a S => exact hp _ _ h
  | exc x S => exact he _ _ h
  | stuck => exact h
theorem Wq.imp (h : Wq r P NoX) (hp : ∀ a S, P a S → P' a S) : Wq r P' E := h.mono hp fun _ _ z => z.elim
theorem Wq.get (h : Wq r P NoX) : ∃ a S, r = .ok a S ∧ P a S := by
  cases r with
  | ok a S => exact ⟨a, S, rfl, h⟩
  | exc x S => exact h.elim
  | stuck => exact h.elim
theorem Wq.of {a : α} {S : Store} (h : r = .ok a S) (p : P a S) : Wq r P E := by rw [h]; exact p
end
section
variable {r : RS} {K K' : Fl → Store → Prop} {E : Exn → Env → Store → Prop}
theorem Ws_ok {a : Fl} {S : Store} : Ws (.ok a S) K E = K a S := (rfl)
theorem Ws_stuck : Ws .stuck K E = False := (rfl)
theorem Ws_at {q : R α} {ρ : Env} {f : α → Store → RS} : Ws (q.at ρ f) K E = Wq q (fun a S => Ws (f a S) K E) (fun x S => E x ρ S) := by cases q <;> rfl
theorem Ws_bind {f : Fl → Store → RS} : Ws (r.bind f) K E = Ws r (fun fl S => Ws (f fl S) K E) E := by cases r <;> rfl
theorem Ws_ite {c : Prop} [Decidable c] {q : RS} : Ws (if c then r else q) K E = if c then Ws r K E else Ws q K E := by split <;> rfl
theorem Ws.mono (h : Ws r K E) (hp : ∀ a S, K a S → K' a S) : Ws r K' E := by
  cases r with
  | ok a S => exact hp _ _ h
  | exc x S => exact h
  | stuck => exact h
/-- what a body hands back -/
def retK (P : PV → Store → Prop) : Fl → Store → Prop
  | .nx _, S => P .non S
  | .rt v, S => P v S
  | _, _ => False
theorem Wq_ret {P : PV → Store → Prop} {E : Exn → Store → Prop} : Wq r.ret P E = Ws r (retK P) (fun x _ S => E x S) := by
  cases r with
  | ok fl S => cases fl <;> rfl
  | exc x S => rfl
  | stuck => rfl
end
/-- a call of a def of the table -/
theorem Wq_call {T : Tab} {n f : Nat} {fn : Fn} {args : List PV} {S : Store} {P : PV → Store → Prop} {E : Exn → Store → Prop} (hf : T.fns[f]? = some fn) (hl : args.length = fn.np)
    (h : Ws (execB (cxF T n) fn.body (startEnv fn args) S) (retK P) (fun x _ S => E x S)) : Wq (callF T (n + 1) f args S) P E := by
  rw [callF_succ, hf]
  simp only
  rw [if_pos hl, Wq_ret]
  exact h
/-- what follows a statement -/
def nxt (cx : Cxi) (ss : CSs) (K : Fl → Store → Prop) (E : Exn → Env → Store → Prop) : Fl → Store → Prop
  | .nx ρ, S => Ws (execB cx ss ρ S) K E
  | fl, S => K fl S
section
variable {cx : Cxi} {ρ : Env} {S : Store} {K : Fl → Store → Prop} {E : Exn → Env → Store → Prop}
theorem W_nil : Ws (execB cx .nil ρ S) K E = K (.nx ρ) S := (rfl)
theorem W_cons {s : CS} {ss : CSs} : Ws (execB cx (.cons s ss) ρ S) K E = Ws (execS cx s ρ S) (nxt cx ss K E) E := by
  simp only [execB, Ws_bind]
  congr 1
  funext fl S
  cases fl <;> rfl
theorem W_asg {t : CT} {e : CE} : Ws (execS cx (.asg t e) ρ S) K E = Wq (evalE cx e ρ S) (fun v S => Wq (assignE cx t v ρ S) (fun ρ' S => K (.nx ρ') S) NoX) (fun x S => E x ρ S) := by
  simp only [execS, Ws_at, Wq_nox, Ws_ok]
theorem W_asgn {i : Nat} {e : CE} : Ws (execS cx (.asg (.name i) e) ρ S) K E = Wq (evalE cx e ρ S) (fun v S => i < ρ.length ∧ K (.nx (ρ.set i (some v))) S) (fun x S => E x ρ S) := by
  simp only [W_asg, assignE, Wq_ite, Wq_ok, Wq_stuck]
  congr 1
  funext v S
  simp
theorem W_ex {e : CE} : Ws (execS cx (.ex e) ρ S) K E = Wq (evalE cx e ρ S) (fun _ S => K (.nx ρ) S) (fun x S => E x ρ S) := by simp only [execS, Ws_at, Ws_ok]
theorem W_rt {e : CE} : Ws (execS cx (.ret e) ρ S) K E = Wq (evalE cx e ρ S) (fun v S => K (.rt v) S) (fun x S => E x ρ S) := by simp only [execS, Ws_at, Ws_ok]
/-- a test -/
def Wt (cx : Cxi) (c : CE) (ρ : Env) (S : Store) (Q : Bool → Store → Prop) (E : Exn → Store → Prop) : Prop := Wq (evalE cx c ρ S) (fun x S => ∃ k, truthy S x = some k ∧ Q k S) E
theorem W_test {c : CE} {Q : Bool → Store → Prop} {E : Exn → Store → Prop} : Wq (testE cx c ρ S) Q E = Wt cx c ρ S Q E := by
  simp only [testE, Wq_bind, Wq_ofO, Wt]
theorem W_if {c : CE} {a b : CSs} : Ws (execS cx (.ite c a b) ρ S) K E = Wt cx c ρ S (fun k S => if k then Ws (execB cx a ρ S) K E else Ws (execB cx b ρ S) K E) (fun x S => E x ρ S) := by
  simp only [execS, Ws_at, W_test, Ws_ite]
end

/-! ### loops -/
/-- a while loop by an invariant and a measure -/
theorem W_while {cx : Cxi} {c : CE} {b : CSs} {ρ : Env} {S : Store} {K : Fl → Store → Prop} {E : Exn → Env → Store → Prop} (I : Env → Store → Prop) (μ : Env → Store → Nat) (h0 : I ρ S) (hμ : μ ρ S < cx.T.F)
    (hs : ∀ ρ S, I ρ S → Wt cx c ρ S (fun k S' => if k then Ws (execB cx b ρ S') (fun fl S2 => match fl with
      | .nx ρ2 => I ρ2 S2 ∧ μ ρ2 S2 < μ ρ S
      | .ct ρ2 => I ρ2 S2 ∧ μ ρ2 S2 < μ ρ S
      | .bk ρ2 => K (.nx ρ2) S2
      | .rt v => K (.rt v) S2) E else K (.nx ρ) S') (fun x S => E x ρ S)) : Ws (execS cx (.whl c b) ρ S) K E := by
  simp only [execS]
  have key : ∀ F ρ S, μ ρ S < F → I ρ S → Ws (whLoop (testE cx c) (execB cx b) F ρ S) K E := by
    intro F
    induction F with
    | zero => intro ρ S h; omega
    | succ F ih =>
      intro ρ S hF hI
      simp only [whLoop, Ws_at, W_test]
      refine (hs ρ S hI).mono (fun x S1 ⟨k, hk, q⟩ => ⟨k, hk, ?_⟩) fun _ _ z => z
      cases k with
      | false => exact q
      | true =>
        simp only [if_true, Ws_bind]
        refine Ws.mono (show Ws (execB cx b ρ S1) _ E from q) fun fl S2 q2 => ?_
        cases fl with
        | nx ρ2 => exact ih ρ2 S2 (by have := q2.2; omega) q2.1
        | ct ρ2 => exact ih ρ2 S2 (by have := q2.2; omega) q2.1
        | bk ρ2 => exact q2
        | rt v => exact q2
  exact key _ ρ S hμ h0
/-- a for loop: n items; x the item at turn i -/
theorem W_forI {cx : Cxi} {t : CT} {b : CSs} {J : ItV} {n : Nat} {ρ : Env} {S : Store} {K : Fl → Store → Prop} {E : Exn → Env → Store → Prop} (I : Nat → Env → Store → Prop) (h0 : I 0 ρ S) (hF : n < cx.T.F)
    (hn : ∀ i ρ S, I i ρ S → i ≤ n → (i < n → ∃ x, J.next i S = some (some x) ∧ Wq (assignE cx t x ρ S) (fun ρ1 S1 => Ws (execB cx b ρ1 S1) (fun fl S2 => match fl with
      | .nx ρ2 => I (i + 1) ρ2 S2
      | .ct ρ2 => I (i + 1) ρ2 S2
      | .bk ρ2 => K (.nx ρ2) S2
      | .rt v => K (.rt v) S2) E) NoX) ∧ (i = n → J.next i S = some none ∧ K (.nx ρ) S)) : Ws (frLoop (assignE cx t) (execB cx b) J cx.T.F 0 ρ S) K E := by
  have key : ∀ F i ρ S, n - i < F → i ≤ n → I i ρ S → Ws (frLoop (assignE cx t) (execB cx b) J F i ρ S) K E := by
    intro F
    induction F with
    | zero => intro i ρ S h; omega
    | succ F ih =>
      intro i ρ S hF hi hI
      obtain ⟨h1, h2⟩ := hn i ρ S hI hi
      by_cases hlt : i < n
      · obtain ⟨x, hx, q⟩ := h1 hlt
        simp only [frLoop, hx, Ws_at, Wq_nox]
        refine q.mono (fun ρ1 S1 q1 => ?_) fun _ _ z => z
        rw [Ws_bind]
        refine Ws.mono q1 fun fl S2 q2 => ?_
        cases fl with
        | nx ρ2 => exact ih (i + 1) ρ2 S2 (by omega) (by omega) q2
        | ct ρ2 => exact ih (i + 1) ρ2 S2 (by omega) (by omega) q2
        | bk ρ2 => exact q2
        | rt v => exact q2
      · obtain ⟨hx, q⟩ := h2 (by omega)
        simp only [frLoop, hx]
        exact q
  exact key _ 0 ρ S (by omega) (Nat.zero_le _) h0
theorem W_for {cx : Cxi} {t : CT} {ci : CI} {b : CSs} {ρ : Env} {S : Store} {K : Fl → Store → Prop} {E : Exn → Env → Store → Prop} :
    Ws (execS cx (.fr t ci b) ρ S) K E = Wq (iterE cx ci ρ S) (fun J S => Ws (frLoop (assignE cx t) (execB cx b) J cx.T.F 0 ρ S) K E) (fun x S => E x ρ S) := by
  simp only [execS, Ws_at]
/-- a comprehension's loop -/
theorem W_lcI {body : PV → Store → R (Option PV)} {J : ItV} {n F : Nat} {S : Store} {P : PV → Store → Prop} {E : Exn → Store → Prop} (I : Nat → List PV → Store → Prop) (h0 : I 0 [] S) (hF : n < F) (hn0 : n < nsz)
    (hn : ∀ i acc S, I i acc S → i ≤ n → acc.length ≤ i → (i < n → ∃ x, J.next i S = some (some x) ∧ Wq (body x S) (fun o S1 => match o with
      | none => I (i + 1) acc S1
      | some y => I (i + 1) (acc ++ [y]) S1) NoX) ∧ (i = n → J.next i S = some none ∧ P (.ref S.length) (S ++ [.lst acc]))) : Wq (lcLoop body J F 0 [] S) P E := by
  have key : ∀ F i acc S, n - i < F → i ≤ n → acc.length ≤ i → I i acc S → Wq (lcLoop body J F i acc S) P E := by
    intro F
    induction F with
    | zero => intro i acc S h; omega
    | succ F ih =>
      intro i acc S hF hi ha hI
      obtain ⟨h1, h2⟩ := hn i acc S hI hi ha
      by_cases hlt : i < n
      · obtain ⟨x, hx, q⟩ := h1 hlt
        simp only [lcLoop, hx, Wq_bind, Wq_nox]
        refine q.imp fun o S1 q1 => ?_
        cases o with
        | none => exact ih (i + 1) acc S1 (by omega) (by omega) (by omega) q1
        | some y =>
          show Wq (if acc.length < nsz then _ else _) _ _
          rw [if_pos (by omega)]
          exact ih (i + 1) (acc ++ [y]) S1 (by omega) (by omega) (by simp; omega) q1
      · obtain ⟨hx, q⟩ := h2 (by omega)
        simp only [lcLoop, hx]
        exact q
  exact key _ 0 [] S (by omega) (Nat.zero_le _) (Nat.le_refl _) h0
/-- the store grows -/
def Grow (S S' : Store) : Prop := ∃ Z, S' = S ++ Z
theorem Grow.refl (S : Store) : Grow S S := ⟨[], by simp⟩
theorem Grow.trans {S S1 S2 : Store} (a : Grow S S1) (b : Grow S1 S2) : Grow S S2 := by
  obtain ⟨Z, rfl⟩ := a
  obtain ⟨Z', rfl⟩ := b
  exact ⟨Z ++ Z', by simp⟩
theorem Grow.push (S Z : Store) : Grow S (S ++ Z) := ⟨Z, rfl⟩
theorem Grow.at {S S' : Store} (g : Grow S S') {n : Nat} {o : MO} (h : S[n]? = some o) : S'[n]? = some o := by
  obtain ⟨Z, rfl⟩ := g
  rw [List.getElem?_append_left (List.getElem?_eq_some_iff.mp h).1]
  exact h
theorem at_push {S : Store} {o : MO} : (S ++ [o])[S.length]? = some o := by simp
/-! ### small steps -/
section
variable {P : PV → Store → Prop} {E : Exn → Store → Prop} {S : Store}
theorem Wq_getV {ρ : Env} {i : Nat} : Wq (getV ρ i S) P E = ∃ v, ρ[i]? = some (some v) ∧ P v S := by
  unfold getV
  split
  · rename_i v h
    simp [h, Wq]
  · rename_i h
    simp only [Wq, eq_iff_iff, false_iff, not_exists, not_and]
    intro v hv
    exact (h v hv).elim
theorem tr_bl {b : Bool} : truthy S (.bl b) = some b := (rfl)
theorem tr_int {i : Int} : truthy S (.int i) = some (i != 0) := (rfl)
theorem tr_tup {xs : List PV} : truthy S (.tup xs) = some (!xs.isEmpty) := (rfl)
theorem tr_non : truthy S .non = some false := (rfl)
theorem c_eqi {a b : Int} : cop .eq (.int a) (.int b) S = some (a == b) := (rfl)
theorem c_nei {a b : Int} : cop .ne (.int a) (.int b) S = some (!(a == b)) := (rfl)
theorem c_eqs {a b : Sy} : cop .eq (.str a) (.str b) S = some (a == b) := (rfl)
theorem c_nes {a b : Sy} : cop .ne (.str a) (.str b) S = some (!(a == b)) := (rfl)
theorem c_eqb {a b : Bool} : cop .eq (.bl a) (.bl b) S = some (a == b) := (rfl)
theorem c_neb {a b : Bool} : cop .ne (.bl a) (.bl b) S = some (!(a == b)) := (rfl)
theorem c_lti {a b : Int} : cop .lt (.int a) (.int b) S = some (decide (a < b)) := (rfl)
theorem c_lei {a b : Int} : cop .le (.int a) (.int b) S = some (decide (a ≤ b)) := (rfl)
theorem c_gti {a b : Int} : cop .gt (.int a) (.int b) S = some (decide (b < a)) := (rfl)
theorem c_gei {a b : Int} : cop .ge (.int a) (.int b) S = some (decide (b ≤ a)) := (rfl)
theorem c_isb {a b : Bool} : cop .is (.bl a) (.bl b) S = some (decide (a = b)) := (rfl)
theorem c_isnb {a b : Bool} : cop .isn (.bl a) (.bl b) S = some (!decide (a = b)) := (rfl)
theorem c_in1 {c : Nat} {b : Sy} : cop .inn (.str [c]) (.str b) S = some (b.elem c) := (rfl)
theorem c_nin1 {c : Nat} {b : Sy} : cop .nin (.str [c]) (.str b) S = some (!b.elem c) := (rfl)
theorem b_addi {i j : Int} : bop .add (.int i) (.int j) S = .ok (.int (i + j)) S := (rfl)
theorem b_subi {i j : Int} : bop .sub (.int i) (.int j) S = .ok (.int (i - j)) S := (rfl)
theorem b_muli {i j : Int} (h : -W64 < j ∧ j < W64) : bop .mul (.int i) (.int j) S = .ok (.int (i * j)) S := if_pos (.inr h)
theorem b_modi {i j : Int} (h : 0 < j) : bop .mod (.int i) (.int j) S = .ok (.int (i % j)) S := if_pos h
theorem b_fdivi {i j : Int} (h : 0 < j ∧ j < 1073741824) : bop .fdiv (.int i) (.int j) S = .ok (.int (i / j)) S := if_pos h
theorem f_int {i : Int} : bfun .int [.int i] S = .ok (.int i) S := (rfl)
theorem f_abs {i : Int} : bfun .abs [.int i] S = .ok (.int (if i < 0 then -i else i)) S := (rfl)
theorem f_lenT {xs : List PV} : bfun .len [.tup xs] S = .ok (.int xs.length) S := (rfl)
theorem f_lenL {p : Nat} {xs : List PV} (h : S[p]? = some (.lst xs)) : bfun .len [.ref p] S = .ok (.int xs.length) S := by simp [bfun, h]
theorem f_lenC {xs : List PV} : bfun .len [.rol xs] S = .ok (.int xs.length) S := (rfl)
theorem f_lenS {x : Sy} (h : x.length ≤ nsz) : bfun .len [.str x] S = .ok (.int x.length) S := if_pos h
theorem g_L {p : Nat} {xs : List PV} {i : Int} (h : S[p]? = some (.lst xs)) : getIx (.ref p) (.int i) S = atI xs i := by simp [getIx, h]
theorem g_T {xs : List PV} {i : Int} : getIx (.tup xs) (.int i) S = atI xs i := (rfl)
theorem g_C {xs : List PV} {i : Int} : getIx (.rol xs) (.int i) S = atI xs i := (rfl)
theorem at_nat {α : Type} {xs : List α} {i : Int} (h0 : 0 ≤ i) (h1 : i < xs.length) : atI xs i = xs[i.toNat]? := by simp [atI, ixN, h0, h1]
theorem at_0 {α : Type} {a : α} {r : List α} : atI (a :: r) 0 = some a := by
  rw [at_nat (by decide) (by simp only [List.length_cons]; omega)]
  rfl
theorem at_1 {α : Type} {a b : α} {r : List α} : atI (a :: b :: r) 1 = some b := by
  rw [at_nat (by decide) (by simp only [List.length_cons]; omega)]
  rfl
theorem at_2 {α : Type} {a b c : α} {r : List α} : atI (a :: b :: c :: r) 2 = some c := by
  rw [at_nat (by decide) (by simp only [List.length_cons]; omega)]
  rfl
theorem at_3 {α : Type} {a b c d : α} {r : List α} : atI (a :: b :: c :: d :: r) 3 = some d := by
  rw [at_nat (by decide) (by simp only [List.length_cons]; omega)]
  rfl
theorem at_get {α : Type} {xs : List α} {i : Int} (h0 : 0 ≤ i) (h1 : i < xs.length) : ∃ x, atI xs i = some x ∧ x ∈ xs := by
  refine ⟨xs[i.toNat]'(by omega), by rw [at_nat h0 h1]; simp, List.getElem_mem _⟩
theorem x_L {p : Nat} {xs : List PV} {i : Int} {v : PV} (h : S[p]? = some (.lst xs)) (h0 : 0 ≤ i) (h1 : i < xs.length) : setIx (.ref p) (.int i) v S = some (S.set p (.lst (xs.set i.toNat v))) := by simp [setIx, h, ixN, h0, h1]
end
/-- a test by its wp -/
theorem Wt_and {cx : Cxi} {a b : CE} {ρ : Env} {S : Store} {Q : Bool → Store → Prop} {E : Exn → Store → Prop} : Wt cx (.and a b) ρ S Q E = Wt cx a ρ S (fun k S => if k then Wt cx b ρ S Q E else Q false S) E := by
  simp only [Wt, evalE, Wq_bind, Wq_ofO]
  congr 1
  funext x S1
  simp only [eq_iff_iff]
  constructor
  · rintro ⟨k, hk, h⟩
    refine ⟨k, hk, ?_⟩
    cases k with
    | true => exact h
    | false =>
      obtain ⟨k2, h1, h2⟩ := h
      rw [hk] at h1
      cases h1
      exact h2
  · rintro ⟨k, hk, h⟩
    refine ⟨k, hk, ?_⟩
    cases k with
    | true => exact h
    | false => exact ⟨false, hk, h⟩
theorem Wt_or {cx : Cxi} {a b : CE} {ρ : Env} {S : Store} {Q : Bool → Store → Prop} {E : Exn → Store → Prop} : Wt cx (.or a b) ρ S Q E = Wt cx a ρ S (fun k S => if k then Q true S else Wt cx b ρ S Q E) E := by
  simp only [Wt, evalE, Wq_bind, Wq_ofO]
  congr 1
  funext x S1
  simp only [eq_iff_iff]
  constructor
  · rintro ⟨k, hk, h⟩
    refine ⟨k, hk, ?_⟩
    cases k with
    | false => exact h
    | true =>
      obtain ⟨k2, h1, h2⟩ := h
      rw [hk] at h1
      cases h1
      exact h2
  · rintro ⟨k, hk, h⟩
    refine ⟨k, hk, ?_⟩
    cases k with
    | false => exact h
    | true => exact ⟨true, hk, h⟩
theorem Wt_not {cx : Cxi} {a : CE} {ρ : Env} {S : Store} {Q : Bool → Store → Prop} {E : Exn → Store → Prop} : Wt cx (.nt a) ρ S Q E = Wt cx a ρ S (fun k S => Q (!k) S) E := by
  simp only [Wt, evalE, Wq_bind, Wq_ofO, Wq_ok, tr_bl]
  congr 1
  funext x S1
  simp
/-! ### loops, kept shut -/
/-- a for loop about to run -/
def Lp (cx : Cxi) (t : CT) (b : CSs) (J : ItV) (ρ : Env) (S : Store) (K : Fl → Store → Prop) (E : Exn → Env → Store → Prop) : Prop := Ws (frLoop (assignE cx t) (execB cx b) J cx.T.F 0 ρ S) K E
theorem W_fr {cx : Cxi} {t : CT} {ci : CI} {b : CSs} {ρ : Env} {S : Store} {K : Fl → Store → Prop} {E : Exn → Env → Store → Prop} :
    Ws (execS cx (.fr t ci b) ρ S) K E = Wq (iterE cx ci ρ S) (fun J S => Lp cx t b J ρ S K E) (fun x S => E x ρ S) := W_for
theorem Lp_I {cx : Cxi} {t : CT} {b : CSs} {J : ItV} {ρ : Env} {S : Store} {K : Fl → Store → Prop} {E : Exn → Env → Store → Prop} (n : Nat) (I : Nat → Env → Store → Prop) (h0 : I 0 ρ S) (hF : n < cx.T.F)
    (hn : ∀ i ρ S, I i ρ S → i ≤ n → (i < n → ∃ x, J.next i S = some (some x) ∧ Wq (assignE cx t x ρ S) (fun ρ1 S1 => Ws (execB cx b ρ1 S1) (fun fl S2 => match fl with
      | .nx ρ2 => I (i + 1) ρ2 S2
      | .ct ρ2 => I (i + 1) ρ2 S2
      | .bk ρ2 => K (.nx ρ2) S2
      | .rt v => K (.rt v) S2) E) NoX) ∧ (i = n → J.next i S = some none ∧ K (.nx ρ) S)) : Lp cx t b J ρ S K E := W_forI I h0 hF hn
/-- a comprehension about to run -/
def Lcw (cx : Cxi) (vs : List Nat) (t : CT) (cond elt : CE) (J : ItV) (ρ : Env) (S : Store) (P : PV → Store → Prop) (E : Exn → Store → Prop) : Prop :=
  Wq (lcLoop (fun x S => (assignE cx t x (wipe ρ vs) S).bind fun ρ' S => (evalE cx cond ρ' S).bind fun c S => (ofO (truthy S c) S).bind fun k S => if k then (evalE cx elt ρ' S).bind fun y S => .ok (some y) S else .ok none S) J cx.T.F 0 [] S) P E
theorem W_lc {cx : Cxi} {vs : List Nat} {t : CT} {ci : CI} {cond elt : CE} {ρ : Env} {S : Store} {P : PV → Store → Prop} {E : Exn → Store → Prop} :
    Wq (evalE cx (.lc vs t ci cond elt) ρ S) P E = Wq (iterE cx ci ρ S) (fun J S => Lcw cx vs t cond elt J ρ S P E) E := by
  simp only [evalE, Wq_bind, Lcw]
/-- a comprehension without a condition, by an invariant -/
theorem Lcw_I {cx : Cxi} {vs : List Nat} {t : CT} {elt : CE} {J : ItV} {ρ : Env} {S : Store} {P : PV → Store → Prop} {E : Exn → Store → Prop} (n : Nat) (I : Nat → List PV → Store → Prop) (h0 : I 0 [] S) (hF : n < cx.T.F) (hz : n < nsz)
    (hn : ∀ i acc S, I i acc S → i ≤ n → acc.length ≤ i → (i < n → ∃ x, J.next i S = some (some x) ∧ Wq (assignE cx t x (wipe ρ vs) S) (fun ρ1 S1 => Wq (evalE cx elt ρ1 S1) (fun y S2 => I (i + 1) (acc ++ [y]) S2) NoX) NoX) ∧ (i = n → J.next i S = some none ∧ P (.ref S.length) (S ++ [.lst acc]))) : Lcw cx vs t (.con (.bl true)) elt J ρ S P E := by
  refine W_lcI I h0 hF hz fun i acc S hI hi ha => ⟨fun hlt => ?_, (hn i acc S hI hi ha).2⟩
  obtain ⟨x, hx, h⟩ := (hn i acc S hI hi ha).1 hlt
  refine ⟨x, hx, ?_⟩
  simp only [Wq_bind, evalE, Wq_ok, Wq_ofO, tr_bl, Option.some.injEq, exists_eq_left', Wq_ite, if_true]
  exact h
theorem W_asub {cx : Cxi} {ρ : Env} {S : Store} {K : Fl → Store → Prop} {E : Exn → Env → Store → Prop} {o i e : CE} : Ws (execS cx (.asg (.sub o i) e) ρ S) K E = Wq (evalE cx e ρ S) (fun v S => Wq (evalE cx o ρ S) (fun x S => Wq (evalE cx i ρ S) (fun y S => ∃ S', setIx x y v S = some S' ∧ K (.nx ρ) S') NoX) NoX) (fun x S => E x ρ S) := by
  simp only [W_asg, assignE, Wq_bind, Wq_ofO, Wq_ok]
theorem W_atup {cx : Cxi} {ρ : Env} {S : Store} {K : Fl → Store → Prop} {E : Exn → Env → Store → Prop} {ts : CTs} {e : CE} : Ws (execS cx (.asg (.tup ts) e) ρ S) K E = Wq (evalE cx e ρ S) (fun v S => Wq (assignE cx (.tup ts) v ρ S) (fun ρ' S => K (.nx ρ') S) NoX) (fun x S => E x ρ S) := W_asg
theorem nxt_nx {cx : Cxi} {ss : CSs} {K : Fl → Store → Prop} {E : Exn → Env → Store → Prop} {ρ : Env} {S : Store} : nxt cx ss K E (.nx ρ) S = Ws (execB cx ss ρ S) K E := (rfl)
theorem nxt_rt {cx : Cxi} {ss : CSs} {K : Fl → Store → Prop} {E : Exn → Env → Store → Prop} {v : PV} {S : Store} : nxt cx ss K E (.rt v) S = K (.rt v) S := (rfl)
theorem nxt_bk {cx : Cxi} {ss : CSs} {K : Fl → Store → Prop} {E : Exn → Env → Store → Prop} {ρ : Env} {S : Store} : nxt cx ss K E (.bk ρ) S = K (.bk ρ) S := (rfl)
theorem nxt_ct {cx : Cxi} {ss : CSs} {K : Fl → Store → Prop} {E : Exn → Env → Store → Prop} {ρ : Env} {S : Store} : nxt cx ss K E (.ct ρ) S = K (.ct ρ) S := (rfl)
theorem retK_rt {P : PV → Store → Prop} {v : PV} {S : Store} : retK P (.rt v) S = P v S := (rfl)
theorem retK_nx {P : PV → Store → Prop} {ρ : Env} {S : Store} : retK P (.nx ρ) S = P .non S := (rfl)
theorem W_pass {cx : Cxi} {ρ : Env} {S : Store} {K : Fl → Store → Prop} {E : Exn → Env → Store → Prop} : Ws (execS cx .pass ρ S) K E = K (.nx ρ) S := (rfl)
theorem W_brk {cx : Cxi} {ρ : Env} {S : Store} {K : Fl → Store → Prop} {E : Exn → Env → Store → Prop} : Ws (execS cx .brk ρ S) K E = K (.bk ρ) S := (rfl)
theorem W_cnt {cx : Cxi} {ρ : Env} {S : Store} {K : Fl → Store → Prop} {E : Exn → Env → Store → Prop} : Ws (execS cx .cnt ρ S) K E = K (.ct ρ) S := (rfl)
theorem W_retn {cx : Cxi} {ρ : Env} {S : Store} {K : Fl → Store → Prop} {E : Exn → Env → Store → Prop} : Ws (execS cx .retn ρ S) K E = K (.rt .non) S := (rfl)
/-! ### tests as propositions -/
section
variable {cx : Cxi} {ρ : Env} {S : Store} {Q : Bool → Store → Prop} {E : Exn → Store → Prop}
theorem Wq_isi {a : CE} {t : Ty} {P : PV → Store → Prop} : Wq (evalE cx (.isi a t) ρ S) P E = Wq (evalE cx a ρ S) (fun x S => ∃ k, isTy S x t = some k ∧ P (.bl k) S) E := by
  simp only [evalE, Wq_bind, Wq_ofO, Wq_ok]
end
end L3
/-! L3Strm: the laws' stream of draws, once for all. -/
namespace L3
local macro_rules | `(tactic| walk_at "e") => `(tactic| try simp only [Wt_and, Wt_or, Wt_not, Wt, evalE, evalEs, evalO, assignE, Wq_bind, Wq_ok, Wq_ofO, Wq_getV, Wq_ite, Wq_stuck, List.getElem?_cons_zero, List.getElem?_cons_succ, List.set_cons_zero, List.set_cons_succ, List.length_cons, List.length_nil, Option.some.injEq, exists_eq_left', exists_eq_left, tr_bl, tr_int, tr_tup, tr_non,
  c_eqi, c_nei, c_eqs, c_nes, c_eqb, c_neb, c_lti, c_lei, c_gti, c_gei, c_isb, c_isnb, c_in1, c_nin1, b_addi, b_subi, f_int, f_abs, f_lenT, f_lenC, g_T, g_C, at_0, at_1, at_2, at_3])
/-- the stream at s: its list at q, a part of a cell, the next cell, the mixed number -/
structure Strm (S : Store) (s : Nat) : Prop where
  ex : ∃ q ns a k m, S[s]? = some (.lst [.ref q, .int a, .int k, .int m]) ∧ S[q]? = some (.lst (List.map PV.int ns)) ∧ s = q + 1 ∧ 0 ≤ a ∧ 0 ≤ k ∧ k ≤ (ns.length : Int) ∧ ns.length ≤ 63
theorem Strm.mk' {S : Store} {s q : Nat} {ns : List Int} {a k m : Int} {xs : List PV} (h : S[s]? = some (.lst xs)) (hq : S[q]? = some (.lst (ns.map .int))) (hne : s = q + 1) (ha : 0 ≤ a) (hk : 0 ≤ k) (hl : k ≤ (ns.length : Int)) (h63 : ns.length ≤ 63) :
    Strm (S.set s (.lst [.ref q, .int a, .int k, .int m])) s :=
  ⟨q, ns, a, k, m, by rw [List.getElem?_set_self (List.getElem?_eq_some_iff.mp h).1], by rw [List.getElem?_set_ne (show s ≠ q by omega)]; exact hq, hne, ha, hk, hl, h63⟩
def iDraw : CS := (.ite (.and (.cmp .eq (.idx (.var 0) (.con (.int 1))) (.con (.int 0))) (.cmp .lt (.idx (.var 0) (.con (.int 2))) (.bf .len (.cons (.idx (.var 0) (.con (.int 0))) .nil)))) (.cons (.asg (.sub (.var 0) (.con (.int 1))) (.bf .abs (.cons (.bf .int (.cons (.idx (.idx (.var 0) (.con (.int 0))) (.idx (.var 0) (.con (.int 2)))) .nil)) .nil))) (.cons (.asg (.sub (.var 0) (.con (.int 2))) (.bin .add (.idx (.var 0) (.con (.int 2))) (.con (.int 1)))) .nil)) .nil)
def bDraw2 : CSs := (.cons (.ite (.cmp .eq (.idx (.var 0) (.con (.int 1))) (.con (.int 0))) (.cons (.asg (.sub (.var 0) (.con (.int 3))) (.bin .mod (.bf .int (.cons (.bin .add (.bin .mul (.idx (.var 0) (.con (.int 3))) (.con (.int 48271))) (.con (.int 11))) .nil)) (.con (.int 2147483647)))) (.cons (.ret (.bin .mod (.bf .int (.cons (.bin .fdiv (.idx (.var 0) (.con (.int 3))) (.con (.int 97))) .nil)) (.var 1))) .nil)) .nil) (.cons (.asg (.name 2) (.bin .mod (.bf .int (.cons (.idx (.var 0) (.con (.int 1))) .nil)) (.var 1))) (.cons (.asg (.sub (.var 0) (.con (.int 1))) (.bin .fdiv (.idx (.var 0) (.con (.int 1))) (.var 1))) (.cons (.ret (.var 2)) .nil))))
def bDraw : CSs := .cons iDraw bDraw2
def fDraw : Fn := ⟨2, 3, bDraw⟩
def bStream : CSs := (.cons (.asg (.name 1) (.con (.int 17))) (.cons (.fr (.name 2) (.seq (.var 0)) (.cons (.asg (.name 1) (.bin .mod (.bf .int (.cons (.bin .add (.bin .add (.bin .mul (.var 1) (.con (.int 48271))) (.bin .mod (.bf .int (.cons (.var 2) .nil)) (.con (.int 65521)))) (.con (.int 1))) .nil)) (.con (.int 2147483647)))) .nil)) (.cons (.ret (.lst (.cons (.bf .list (.cons (.var 0) .nil)) (.cons (.con (.int 0)) (.cons (.con (.int 0)) (.cons (.var 1) .nil)))))) .nil)))
def fStream : Fn := ⟨1, 3, bStream⟩
section
variable {S : Store} {p : Nat} {a b c d v : PV}
theorem x4_1 (h : S[p]? = some (.lst [a, b, c, d])) : setIx (.ref p) (.int 1) v S = some (S.set p (.lst [a, v, c, d])) := by rw [x_L h (by decide) (by simp only [List.length_cons, List.length_nil]; omega)]; rfl
theorem x4_2 (h : S[p]? = some (.lst [a, b, c, d])) : setIx (.ref p) (.int 2) v S = some (S.set p (.lst [a, b, v, d])) := by rw [x_L h (by decide) (by simp only [List.length_cons, List.length_nil]; omega)]; rfl
theorem x4_3 (h : S[p]? = some (.lst [a, b, c, d])) : setIx (.ref p) (.int 3) v S = some (S.set p (.lst [a, b, c, v])) := by rw [x_L h (by decide) (by simp only [List.length_cons, List.length_nil]; omega)]; rfl
end
/-- the draw's second half, the stream's list as it stands -/
theorem draw2 {T : Tab} {n s q : Nat} {ns : List Int} {many a k m : Int} {S : Store} {K : Fl → Store → Prop} {E : Exn → Env → Store → Prop} (e1 : S[s]? = some (.lst [.ref q, .int a, .int k, .int m])) (e2 : S[q]? = some (.lst (ns.map .int))) (hne : s = q + 1) (ha : 0 ≤ a) (hk : 0 ≤ k) (hl : k ≤ (ns.length : Int)) (h63 : ns.length ≤ 63)
    (h0 : 0 < many) (h1 : many < 1073741824) (hK : ∀ r o, 0 ≤ r → r < many → Strm (S.set s o) s → K (.rt (.int r)) (S.set s o)) :
    Ws (execB (cxF T n) bDraw2 [some (.ref s), some (.int many), none] S) K E := by
  have hsl := (List.getElem?_eq_some_iff.mp e1).1
  have g1 : ∀ o : List PV, (S.set s (.lst o))[s]? = some (.lst o) := fun o => List.getElem?_set_self hsl
  rw [bDraw2, W_cons, W_if]
  walk_at "e"
  simp only [g_L e1]
  walk_at "e"
  by_cases h : a = 0
  · subst h
    simp only [beq_self_eq_true, if_true]
    rw [W_cons, W_asub]
    walk_at "e"
    simp only [g_L e1]
    walk_at "e"
    simp only [b_muli (show -W64 < 48271 ∧ 48271 < W64 by decide)]
    walk_at "e"
    simp only [b_modi (show (0 : Int) < 2147483647 by decide)]
    walk_at "e"
    simp only [x4_3 e1]
    walk_at "e"
    simp only [nxt]
    rw [W_cons, W_rt]
    walk_at "e"
    simp only [g_L (g1 _)]
    walk_at "e"
    simp only [b_fdivi (show (0 : Int) < 97 ∧ (97 : Int) < 1073741824 by decide)]
    walk_at "e"
    simp only [b_modi h0]
    walk_at "e"
    exact hK _ _ (Int.emod_nonneg _ (by omega)) (Int.emod_lt_of_pos _ h0) (Strm.mk' e1 e2 hne (by omega) hk hl h63)
  · simp only [beq_iff_eq, h, if_false, execB, Ws_ok, nxt]
    rw [Ws_bind, W_asgn]
    walk_at "e"
    simp only [g_L e1]
    walk_at "e"
    simp only [b_modi h0]
    walk_at "e"
    refine ⟨by omega, ?_⟩
    rw [Ws_bind, W_asub]
    walk_at "e"
    simp only [g_L e1]
    walk_at "e"
    simp only [b_fdivi ⟨h0, h1⟩]
    walk_at "e"
    simp only [x4_1 e1]
    walk_at "e"
    rw [Ws_bind, W_rt]
    walk_at "e"
    rw [Ws_ok]
    exact hK _ _ (Int.emod_nonneg _ (by omega)) (Int.emod_lt_of_pos _ h0) (Strm.mk' e1 e2 hne (Int.ediv_nonneg ha (by omega)) hk hl h63)
theorem draw_spec {T : Tab} {n d s : Nat} {many : Int} {S : Store} {P : PV → Store → Prop} {E : Exn → Store → Prop} (hd : T.fns[d]? = some fDraw) (hs : Strm S s) (h0 : 0 < many) (h1 : many < 1073741824)
    (hP : ∀ r o, 0 ≤ r → r < many → Strm (S.set s o) s → P (.int r) (S.set s o)) : Wq (callF T (n + 1) d [.ref s, .int many] S) P E := by
  obtain ⟨q, ns, a, k, m, e1, e2, hne, ha, hk, hl, h63⟩ := hs
  have hsl := (List.getElem?_eq_some_iff.mp e1).1
  have g1 : ∀ o : List PV, (S.set s (.lst o))[s]? = some (.lst o) := fun o => List.getElem?_set_self hsl
  have g2 : ∀ o : MO, (S.set s o)[q]? = some (.lst (ns.map .int)) := fun o => by rw [List.getElem?_set_ne (show s ≠ q by omega)]; exact e2
  have g11 : ∀ (o : List PV) (o' : MO), ((S.set s o').set s (.lst o))[s]? = some (.lst o) := fun o o' => List.getElem?_set_self (by simpa using hsl)
  refine Wq_call hd rfl ?_
  simp only [fDraw, bDraw, iDraw, startEnv, List.map_cons, List.map_nil, List.length_cons, List.length_nil, List.replicate, List.cons_append, List.nil_append]
  rw [W_cons, W_if]
  walk_at "e"
  simp only [g_L e1]
  walk_at "e"
  simp only [f_lenL e2]
  walk_at "e"
  by_cases h : a = 0
  · subst h
    simp only [beq_self_eq_true, if_true, decide_eq_true_eq, List.length_map]
    by_cases hlt : k < ns.length
    · simp only [if_pos hlt]
      rw [W_cons, W_asub]
      walk_at "e"
      simp only [g_L e1]
      walk_at "e"
      have hat : getIx (.ref q) (.int k) S = some (.int (ns[k.toNat]'(by omega))) := by
        rw [g_L e2, at_nat hk (by simpa using hlt)]
        simp
      simp only [hat]
      walk_at "e"
      simp only [x4_1 e1]
      walk_at "e"
      simp only [nxt]
      rw [W_cons, W_asub]
      walk_at "e"
      simp only [g_L (g1 _)]
      walk_at "e"
      simp only [x4_2 (g1 _)]
      walk_at "e"
      simp only [nxt, execB, Ws_ok]
      refine draw2 (q := q) (ns := ns) (a := if ns[k.toNat]'(by omega) < 0 then -(ns[k.toNat]'(by omega)) else ns[k.toNat]'(by omega)) (k := k + 1) (m := m) (by rw [g11]) (by rw [List.getElem?_set_ne (show s ≠ q by omega)]; exact g2 _) hne (by split <;> omega) (by omega) (by omega) h63 h0 h1 ?_
      intro r o r0 r1 hS
      rw [List.set_set, List.set_set] at hS ⊢
      exact hP r o r0 r1 hS
    · simp only [if_neg hlt, execB, Ws_ok, nxt]
      exact draw2 e1 e2 hne ha hk hl h63 h0 h1 fun r o r0 r1 hS => hP r o r0 r1 hS
  · simp only [beq_iff_eq, h, if_false, execB, Ws_ok, nxt, Bool.false_eq_true]
    exact draw2 e1 e2 hne ha hk hl h63 h0 h1 fun r o r0 r1 hS => hP r o r0 r1 hS
theorem stream_spec {T : Tab} {n d : Nat} {ns : List Int} {S : Store} {P : PV → Store → Prop} {E : Exn → Store → Prop} (hd : T.fns[d]? = some fStream) (h63 : ns.length ≤ 63) (hF : 1000 ≤ T.F)
    (hP : ∀ m, Strm (S ++ [.lst (ns.map .int)] ++ [.lst [.ref S.length, .int 0, .int 0, .int m]]) (S.length + 1) → P (.ref (S.length + 1)) (S ++ [.lst (ns.map .int)] ++ [.lst [.ref S.length, .int 0, .int 0, .int m]])) : Wq (callF T (n + 1) d [.rol (ns.map .int)] S) P E := by
  refine Wq_call hd rfl ?_
  simp only [fStream, bStream, startEnv, List.map_cons, List.map_nil, List.length_cons, List.length_nil, List.replicate, List.cons_append, List.nil_append]
  rw [W_cons, W_asgn]
  walk_at "e"
  refine ⟨by omega, ?_⟩
  simp only [nxt]
  rw [W_cons, W_fr]
  simp only [iterE, seqIt]
  walk_at "e"
  refine Lp_I ns.length (fun i ρ S1 => S1 = S ∧ ∃ m c, ρ = [some (.rol (ns.map .int)), some (.int m), c]) ⟨rfl, 17, none, rfl⟩ (Nat.lt_of_lt_of_le (Nat.lt_of_le_of_lt h63 (by decide)) hF) ?_
  rintro i ρ S1 ⟨rfl, m, c, rfl⟩ hi
  refine ⟨fun hlt => ⟨.int (ns[i]'hlt), by simp [ItV.next, hlt], ?_⟩, fun he => ⟨by simp [ItV.next, he], ?_⟩⟩
  · walk_at "e"
    simp only [show 2 < 0 + 1 + 1 + 1 from by omega, if_true]
    rw [W_cons, W_asgn]
    walk_at "e"
    simp only [b_muli (show -W64 < 48271 ∧ 48271 < W64 by decide)]
    walk_at "e"
    simp only [b_modi (show (0 : Int) < 65521 by decide)]
    walk_at "e"
    simp only [b_modi (show (0 : Int) < 2147483647 by decide)]
    walk_at "e"
    refine ⟨by omega, ?_⟩
    simp only [nxt, execB, Ws_ok]
    exact ⟨trivial, _, _, rfl⟩
  · simp only [nxt]
    rw [W_cons, W_rt]
    walk_at "e"
    simp only [bfun, Wq_ok]
    walk_at "e"
    simp only [show 0 + 1 + 1 + 1 + 1 ≤ nsz from by decide, if_true, nxt, retK, List.length_append, List.length_cons, List.length_nil]
    refine hP m ⟨S1.length, ns, 0, 0, m, ?_, ?_, by omega, by omega, by omega, by omega, h63⟩
    · rw [show S1.length + 1 = (S1 ++ [MO.lst (ns.map .int)]).length by simp]
      exact at_push
    · rw [List.getElem?_append_left (by simp)]
      exact at_push
end L3
/-! L3Ev: how the store changes under draws; values whose lists are there. -/
namespace L3
/-- from S to S': what lies elsewhere than at s stands; at s is a stream -/
structure Ev (s : Nat) (S S' : Store) : Prop where
  at' : ∀ p o, p ≠ s → S[p]? = some o → S'[p]? = some o
  st : Strm S' s
theorem Strm.lt {S : Store} {s : Nat} (h : Strm S s) : s < S.length := by
  obtain ⟨q, ns, a, k, m, e1, _⟩ := h
  exact (List.getElem?_eq_some_iff.mp e1).1
theorem Strm.grow {S S' : Store} {s : Nat} (h : Strm S s) (g : Grow S S') : Strm S' s := by
  obtain ⟨q, ns, a, k, m, e1, e2, r⟩ := h
  exact ⟨q, ns, a, k, m, g.at e1, g.at e2, r⟩
theorem Ev.refl {S : Store} {s : Nat} (h : Strm S s) : Ev s S S := ⟨fun _ _ _ e => e, h⟩
theorem Ev.trans {S S1 S2 : Store} {s : Nat} (a : Ev s S S1) (b : Ev s S1 S2) : Ev s S S2 := ⟨fun p o hp e => b.at' p o hp (a.at' p o hp e), b.st⟩
theorem Ev.grow {S S1 S2 : Store} {s : Nat} (a : Ev s S S1) (g : Grow S1 S2) : Ev s S S2 := ⟨fun p o hp e => g.at (a.at' p o hp e), a.st.grow g⟩
theorem Ev.push {S S1 Z : Store} {s : Nat} (a : Ev s S S1) : Ev s S (S1 ++ Z) := a.grow (Grow.push _ _)
theorem Ev.len {S S' : Store} {s : Nat} (a : Ev s S S') : S.length ≤ S'.length := by
  by_cases h : S'.length < S.length
  · exfalso
    have hs := a.st.lt
    have := a.at' S'.length (S[S'.length]'h) (by omega) (by simp)
    simp at this
  · omega
theorem draw_ev {T : Tab} {n d s : Nat} {many : Int} {S : Store} {P : PV → Store → Prop} {E : Exn → Store → Prop} (hd : T.fns[d]? = some fDraw) (hs : Strm S s) (h0 : 0 < many) (h1 : many < 1073741824)
    (hP : ∀ r S', 0 ≤ r → r < many → Ev s S S' → P (.int r) S') : Wq (callF T (n + 1) d [.ref s, .int many] S) P E :=
  draw_spec hd hs h0 h1 fun r o r0 r1 hS => hP r _ r0 r1 ⟨fun p o' hp e => by rw [List.getElem?_set_ne (fun h => hp h.symm)]; exact e, hS⟩
mutual
/-- the value's lists are there, its texts are not long -/
def okv (s : Nat) (S : Store) : PV → Prop
  | .ref p => p ≠ s ∧ ∃ xs, S[p]? = some (.lst xs)
  | .tup xs => okvs s S xs
  | .str x => x.length ≤ nsz
  | _ => True
def okvs (s : Nat) (S : Store) : List PV → Prop
  | [] => True
  | x :: xs => okv s S x ∧ okvs s S xs
end
mutual
theorem okv.keep {s : Nat} {S S' : Store} (e : ∀ p o, p ≠ s → S[p]? = some o → S'[p]? = some o) : ∀ {x : PV}, okv s S x → okv s S' x
  | .ref p, ⟨h, xs, h1⟩ => ⟨h, xs, e _ _ h h1⟩
  | .tup xs, h => okvs.keep e (x := xs) h
  | .str x, h => h
  | .non, _ => trivial
  | .bl _, _ => trivial
  | .int _, _ => trivial
  | .rol _, _ => trivial
  | .rot _, _ => trivial
theorem okvs.keep {s : Nat} {S S' : Store} (e : ∀ p o, p ≠ s → S[p]? = some o → S'[p]? = some o) : ∀ {x : List PV}, okvs s S x → okvs s S' x
  | [], _ => trivial
  | x :: xs, h => ⟨okv.keep e h.1, okvs.keep e h.2⟩
end
theorem okv.ev {s : Nat} {S S' : Store} {x : PV} (h : okv s S x) (e : Ev s S S') : okv s S' x := h.keep e.at'
theorem okv.grow {s : Nat} {S S' : Store} {x : PV} (h : okv s S x) (e : Grow S S') : okv s S' x := h.keep fun _ _ _ q => e.at q
theorem okvs_iff {s : Nat} {S : Store} : ∀ {xs : List PV}, okvs s S xs ↔ ∀ x ∈ xs, okv s S x
  | [] => by simp [okvs]
  | x :: xs => by simp [okvs, okvs_iff (xs := xs)]
/-- isinstance without the store -/
def tyB : PV → Ty → Bool
  | .bl _, .int => true
  | .bl _, .bool => true
  | .int _, .int => true
  | .str _, .str => true
  | .tup _, .tuple => true
  | .rol _, .list => true
  | .rot _, .tuple => true
  | .ref _, .list => true
  | _, _ => false
theorem isTy_ok {s : Nat} {S : Store} {v : PV} {t : Ty} (h : okv s S v) : isTy S v t = some (tyB v t) := by
  cases v with
  | ref p =>
    obtain ⟨_, xs, h⟩ := h
    simp only [isTy, h]
    cases t <;> rfl
  | _ => cases t <;> rfl
theorem cxF_T {T : Tab} {n : Nat} : (cxF T n).T = T := (rfl)
theorem cxF_call {T : Tab} {n : Nat} : (cxF T n).call = callF T n := (rfl)
theorem wipe_nil {ρ : Env} : wipe ρ [] = ρ := (rfl)
theorem wipe_1 {ρ : Env} {v : Nat} : wipe ρ [v] = ρ.set v none := (rfl)
theorem bools_map {α : Type} {f : α → Bool} : ∀ xs : List α, bools (xs.map fun x => .bl (f x)) = some (xs.map f)
  | [] => rfl
  | x :: xs => by
    simp only [List.map_cons, bools, bools_map xs, Option.map_some]
theorem f_all {α : Type} {S : Store} {p : Nat} {xs : List α} {f : α → Bool} (h : S[p]? = some (.lst (xs.map fun x => .bl (f x)))) : bfun .all [.ref p] S = .ok (.bl (xs.all f)) S := by
  simp only [bfun, h, bools_map, List.all_map]
  rfl
theorem f_any {α : Type} {S : Store} {p : Nat} {xs : List α} {f : α → Bool} (h : S[p]? = some (.lst (xs.map fun x => .bl (f x)))) : bfun .any [.ref p] S = .ok (.bl (xs.any f)) S := by
  simp only [bfun, h, bools_map, List.any_map]
  rfl
/-- `all` of a comprehension over a sequence, each item's answer known; calls push only -/
theorem lc_map {cx : Cxi} {vs : List Nat} {t : CT} {elt : CE} {xs : List PV} {ρ : Env} {S : Store} {P : PV → Store → Prop} {E : Exn → Store → Prop} (f : PV → PV) (J : ItV) (hJ : ∀ i S', Grow S S' → J.next i S' = some xs[i]?) (hF : xs.length < cx.T.F) (hz : xs.length < nsz)
    (hb : ∀ x S', x ∈ xs → Grow S S' → Wq (assignE cx t x (wipe ρ vs) S') (fun ρ1 S1 => Wq (evalE cx elt ρ1 S1) (fun y S2 => Grow S1 S2 ∧ y = f x) NoX) NoX)
    (hg : ∀ x S' ρ1 S1, assignE cx t x (wipe ρ vs) S' = .ok ρ1 S1 → Grow S' S1)
    (hP : ∀ S', Grow S S' → P (.ref S'.length) (S' ++ [.lst (xs.map f)])) : Lcw cx vs t (.con (.bl true)) elt J ρ S P E := by
  refine Lcw_I xs.length (fun i acc S' => Grow S S' ∧ acc = (xs.take i).map f) ⟨Grow.refl _, by simp⟩ hF hz ?_
  rintro i acc S' ⟨g, rfl⟩ hi ha
  refine ⟨fun hlt => ⟨xs[i], ?_, ?_⟩, fun he => ⟨?_, ?_⟩⟩
  · rw [hJ i S' g]
    simp [hlt]
  · have h1 := hb xs[i] S' (List.getElem_mem _) g
    have h2 := hg xs[i] S'
    cases he : assignE cx t xs[i] (wipe ρ vs) S' with
    | ok ρ1 S1 =>
      rw [he, Wq_ok] at h1
      rw [Wq_ok]
      refine h1.imp fun y S2 q => ⟨g.trans ((h2 _ _ he).trans q.1), ?_⟩
      rw [q.2, List.take_add_one, List.map_append]
      simp [hlt]
    | exc x S1 => rw [he] at h1; exact h1
    | stuck => rw [he] at h1; exact h1
  · rw [hJ i S' g]
    simp [he]
  · have := hP S' g
    rw [he, List.take_length]
    exact this
theorem lc_name {cx : Cxi} {vs : List Nat} {i : Nat} {elt : CE} {xs : List PV} {ρ : Env} {S : Store} {P : PV → Store → Prop} {E : Exn → Store → Prop} (f : PV → PV) (J : ItV) (hJ : ∀ i S', Grow S S' → J.next i S' = some xs[i]?) (hi : i < (wipe ρ vs).length) (hF : xs.length < cx.T.F) (hz : xs.length < nsz)
    (hb : ∀ x S', x ∈ xs → Grow S S' → Wq (evalE cx elt ((wipe ρ vs).set i (some x)) S') (fun y S2 => Grow S' S2 ∧ y = f x) NoX)
    (hP : ∀ S', Grow S S' → P (.ref S'.length) (S' ++ [.lst (xs.map f)])) : Lcw cx vs (.name i) (.con (.bl true)) elt J ρ S P E := by
  refine lc_map f J hJ hF hz (fun x S' hx g => ?_) (fun x S' ρ1 S1 he => ?_) hP
  · rw [assignE, if_pos hi, Wq_ok]
    exact hb x S' hx g
  · rw [assignE, if_pos hi] at he
    cases he
    exact Grow.refl _
theorem lc_all {cx : Cxi} {vs : List Nat} {i : Nat} {elt : CE} {xs : List PV} {ρ : Env} {S : Store} {P : PV → Store → Prop} {E E' : Exn → Store → Prop} (f : PV → Bool) (J : ItV) (hJ : ∀ i S', Grow S S' → J.next i S' = some xs[i]?) (hi : i < (wipe ρ vs).length) (hF : xs.length < cx.T.F) (hz : xs.length < nsz)
    (hb : ∀ x S', x ∈ xs → Grow S S' → Wq (evalE cx elt ((wipe ρ vs).set i (some x)) S') (fun y S2 => Grow S' S2 ∧ y = .bl (f x)) NoX)
    (hP : ∀ S', Grow S S' → P (.bl (xs.all f)) S') : Lcw cx vs (.name i) (.con (.bl true)) elt J ρ S (fun a S => Wq (bfun .all [a] S) P E) E' := by
  refine lc_name (fun x => .bl (f x)) J hJ hi hF hz hb fun S' g => ?_
  rw [f_all at_push, Wq_ok]
  exact hP _ (g.trans (Grow.push _ _))
theorem lc_any {cx : Cxi} {vs : List Nat} {i : Nat} {elt : CE} {xs : List PV} {ρ : Env} {S : Store} {P : PV → Store → Prop} {E E' : Exn → Store → Prop} (f : PV → Bool) (J : ItV) (hJ : ∀ i S', Grow S S' → J.next i S' = some xs[i]?) (hi : i < (wipe ρ vs).length) (hF : xs.length < cx.T.F) (hz : xs.length < nsz)
    (hb : ∀ x S', x ∈ xs → Grow S S' → Wq (evalE cx elt ((wipe ρ vs).set i (some x)) S') (fun y S2 => Grow S' S2 ∧ y = .bl (f x)) NoX)
    (hP : ∀ S', Grow S S' → P (.bl (xs.any f)) S') : Lcw cx vs (.name i) (.con (.bl true)) elt J ρ S (fun a S => Wq (bfun .any [a] S) P E) E' := by
  refine lc_name (fun x => .bl (f x)) J hJ hi hF hz hb fun S' g => ?_
  rw [f_any at_push, Wq_ok]
  exact hP _ (g.trans (Grow.push _ _))
theorem nx_seq {S : Store} {xs : List PV} (i : Nat) (S' : Store) (_ : Grow S S') : (ItV.seq xs).next i S' = some xs[i]? := (rfl)
theorem nx_str {S : Store} {x : Sy} (i : Nat) (S' : Store) (_ : Grow S S') : (ItV.str x).next i S' = some (x.map fun c => PV.str [c])[i]? := by simp [ItV.next]
theorem nx_rng {S : Store} {n : Nat} (i : Nat) (S' : Store) (_ : Grow S S') : (ItV.rng 0 n).next i S' = some (List.map (fun j : Nat => PV.int (Int.ofNat j)) (List.range n))[i]? := by
  by_cases h : i < n <;> simp [ItV.next, h]
theorem g_S {S : Store} {x : Sy} {i : Int} (h : x.length ≤ nsz) : getIx (.str x) (.int i) S = (atI x i).map fun c => .str [c] := if_pos h
end L3
/-! L3Sym: the interpreter's run step by step, the rest kept shut. -/
namespace L3
variable {cx : Cxi} {ρ : Env} {S : Store} {P : PV → Store → Prop} {E : Exn → Store → Prop} {K : Fl → Store → Prop} {EX : Exn → Env → Store → Prop}
/-- a parting of the ways -/
inductive Pin {α : Sort u} (a : α) : Type where
  | mk
def Br (k : Bool) (A B : Prop) (_ : Pin A) (_ : Pin B) : Prop := if k then A else B
theorem Br_t {A B : Prop} {a : Pin A} {b : Pin B} : Br true A B a b = A := (rfl)
theorem Br_f {A B : Prop} {a : Pin A} {b : Pin B} : Br false A B a b = B := (rfl)
theorem Br_i {k : Bool} {A B : Prop} {a : Pin A} {b : Pin B} (h1 : k = true → A) (h2 : k = false → B) : Br k A B a b := by
  cases k with
  | true => exact h1 rfl
  | false => exact h2 rfl
theorem Br_n {k : Bool} {A B : Prop} {a : Pin A} {b : Pin B} : Br (!k) A B a b = Br k B A b a := by cases k <;> rfl
theorem Br_d {p : Prop} [Decidable p] {A B : Prop} {a : Pin A} {b : Pin B} (h1 : p → A) (h2 : ¬ p → B) : Br (decide p) A B a b := Br_i (fun h => h1 (of_decide_eq_true h)) (fun h => h2 (of_decide_eq_false h))
theorem Br_e {α : Type} [BEq α] [LawfulBEq α] {x y : α} {A B : Prop} {a : Pin A} {b : Pin B} (h1 : x = y → A) (h2 : x ≠ y → B) : Br (x == y) A B a b := Br_i (fun h => h1 (eq_of_beq h)) (fun h => h2 (ne_of_beq_false h))
/-- a test's answer -/
def Tq (x : PV) (S : Store) (Q : Bool → Prop) : Prop := ∃ k, truthy S x = some k ∧ Q k
def Cq (op : COp) (x y : PV) (S : Store) (Q : Bool → Prop) : Prop := ∃ k, cop op x y S = some k ∧ Q k
def Iq (x y : PV) (S : Store) (Q : PV → Prop) : Prop := ∃ v, getIx x y S = some v ∧ Q v
def Yq (x : PV) (t : Ty) (S : Store) (Q : Bool → Prop) : Prop := ∃ k, isTy S x t = some k ∧ Q k
/-- a method's meaning -/
def Mq (T : Tab) (x : PV) (m : Sy) (S : Store) (Q : MT → Prop) : Prop := ∃ t, mtOf T x m S = some t ∧ Q t
theorem Mq_L {T : Tab} {p : Nat} {m : Sy} {ys : List PV} {lm : LM} {Q : MT → Prop} (h : S[p]? = some (.lst ys)) (hm : lmOf m = some lm) : Mq T (.ref p) m S Q = Q (.lst lm p) := by simp [Mq, mtOf, h, hm]
theorem Mq_I {T : Tab} {p c f : Nat} {m : Sy} {fs : List (Sy × PV)} {Q : MT → Prop} (h : S[p]? = some (.ins c fs)) (hl : lookF m fs = none) (hm : methOf T c m = some f) : Mq T (.ref p) m S Q = Q (.fn f p) := by simp [Mq, mtOf, h, hl, hm]
def Gq (o : Option PV) (Q : PV → Prop) : Prop := ∃ v, o = some v ∧ Q v
theorem Gq_s {v : PV} {Q : PV → Prop} : Gq (some v) Q = Q v := by simp [Gq]
theorem Tq_some {x : PV} {k : Bool} {Q : Bool → Prop} (h : truthy S x = some k) : Tq x S Q = Q k := by simp [Tq, h]
theorem Cq_some {op : COp} {x y : PV} {k : Bool} {Q : Bool → Prop} (h : cop op x y S = some k) : Cq op x y S Q = Q k := by simp [Cq, h]
theorem Iq_some {x y v : PV} {Q : PV → Prop} (h : getIx x y S = some v) : Iq x y S Q = Q v := by simp [Iq, h]
theorem Yq_some {x : PV} {t : Ty} {k : Bool} {Q : Bool → Prop} (h : isTy S x t = some k) : Yq x t S Q = Q k := by simp [Yq, h]
theorem Yq_ok {s : Nat} {x : PV} {t : Ty} {Q : Bool → Prop} (h : okv s S x) : Yq x t S Q = Q (tyB x t) := Yq_some (isTy_ok h)
theorem Yq_non {t : Ty} {Q : Bool → Prop} : Yq .non t S Q = Q false := Yq_some rfl
theorem Yq_bl {b : Bool} {t : Ty} {Q : Bool → Prop} : Yq (.bl b) t S Q = Q (tyB (.bl b) t) := Yq_some (by cases t <;> rfl)
theorem Yq_int {b : Int} {t : Ty} {Q : Bool → Prop} : Yq (.int b) t S Q = Q (tyB (.int b) t) := Yq_some (by cases t <;> rfl)
theorem Yq_str {b : Sy} {t : Ty} {Q : Bool → Prop} : Yq (.str b) t S Q = Q (tyB (.str b) t) := Yq_some (by cases t <;> rfl)
theorem Yq_tup {b : List PV} {t : Ty} {Q : Bool → Prop} : Yq (.tup b) t S Q = Q (tyB (.tup b) t) := Yq_some (by cases t <;> rfl)
theorem Yq_rol {b : List PV} {t : Ty} {Q : Bool → Prop} : Yq (.rol b) t S Q = Q (tyB (.rol b) t) := Yq_some (by cases t <;> rfl)
theorem Tq_bl {k : Bool} {Q : Bool → Prop} : Tq (.bl k) S Q = Q k := Tq_some rfl
theorem Tq_int {k : Int} {Q : Bool → Prop} : Tq (.int k) S Q = Q (k != 0) := Tq_some rfl
theorem Tq_tup {k : List PV} {Q : Bool → Prop} : Tq (.tup k) S Q = Q (!k.isEmpty) := Tq_some rfl
theorem Tq_rol {k : List PV} {Q : Bool → Prop} : Tq (.rol k) S Q = Q (!k.isEmpty) := Tq_some rfl
theorem Tq_non {Q : Bool → Prop} : Tq .non S Q = Q false := Tq_some rfl

theorem Cq_eqi {a b : Int} {Q : Bool → Prop} : Cq .eq (.int a) (.int b) S Q = Q (a == b) := Cq_some rfl
theorem Cq_nei {a b : Int} {Q : Bool → Prop} : Cq .ne (.int a) (.int b) S Q = Q (!(a == b)) := Cq_some rfl
theorem Cq_eqs {a b : Sy} {Q : Bool → Prop} : Cq .eq (.str a) (.str b) S Q = Q (a == b) := Cq_some rfl
theorem Cq_nes {a b : Sy} {Q : Bool → Prop} : Cq .ne (.str a) (.str b) S Q = Q (!(a == b)) := Cq_some rfl
theorem Cq_eqb {a b : Bool} {Q : Bool → Prop} : Cq .eq (.bl a) (.bl b) S Q = Q (a == b) := Cq_some rfl
theorem Cq_neb {a b : Bool} {Q : Bool → Prop} : Cq .ne (.bl a) (.bl b) S Q = Q (!(a == b)) := Cq_some rfl
theorem Cq_lti {a b : Int} {Q : Bool → Prop} : Cq .lt (.int a) (.int b) S Q = Q (decide (a < b)) := Cq_some rfl
theorem Cq_lei {a b : Int} {Q : Bool → Prop} : Cq .le (.int a) (.int b) S Q = Q (decide (a ≤ b)) := Cq_some rfl
theorem Cq_gti {a b : Int} {Q : Bool → Prop} : Cq .gt (.int a) (.int b) S Q = Q (decide (b < a)) := Cq_some rfl
theorem Cq_gei {a b : Int} {Q : Bool → Prop} : Cq .ge (.int a) (.int b) S Q = Q (decide (b ≤ a)) := Cq_some rfl
theorem Cq_isb {a b : Bool} {Q : Bool → Prop} : Cq .is (.bl a) (.bl b) S Q = Q (decide (a = b)) := Cq_some rfl
theorem Cq_isnb {a b : Bool} {Q : Bool → Prop} : Cq .isn (.bl a) (.bl b) S Q = Q (!decide (a = b)) := Cq_some rfl
theorem Cq_lts {a b : Sy} {Q : Bool → Prop} : Cq .lt (.str a) (.str b) S Q = Q (ltSy a b) := Cq_some rfl
theorem Cq_inn1 {c : Nat} {b : Sy} {Q : Bool → Prop} : Cq .inn (.str [c]) (.str b) S Q = Q (b.elem c) := Cq_some rfl
theorem Cq_nin1 {c : Nat} {b : Sy} {Q : Bool → Prop} : Cq .nin (.str [c]) (.str b) S Q = Q (!b.elem c) := Cq_some rfl
theorem Cq_isnn {x : PV} {Q : Bool → Prop} : Cq .isn x .non S Q = Q (match x with | .non => false | _ => true) := Cq_some (by cases x <;> rfl)
theorem Cq_isN {x : PV} {Q : Bool → Prop} : Cq .is x .non S Q = Q (match x with | .non => true | _ => false) := Cq_some (by cases x <;> rfl)
theorem Iq_T {xs : List PV} {i : Int} {Q : PV → Prop} : Iq (.tup xs) (.int i) S Q = Gq (atI xs i) Q := (rfl)
theorem Iq_R {xs : List PV} {i : Int} {Q : PV → Prop} : Iq (.rot xs) (.int i) S Q = Gq (atI xs i) Q := (rfl)
theorem Iq_C {xs : List PV} {i : Int} {Q : PV → Prop} : Iq (.rol xs) (.int i) S Q = Gq (atI xs i) Q := (rfl)
theorem Iq_S {x : Sy} {i : Int} {Q : PV → Prop} (h : x.length ≤ nsz) : Iq (.str x) (.int i) S Q = Gq ((atI x i).map fun c => .str [c]) Q := by simp only [Iq, Gq, g_S h]
theorem Iq_D {p : Nat} {t : Bool} {kvs : List (PV × PV)} {k : PV} {Q : PV → Prop} (h : S[p]? = some (.dic t kvs)) (hk : isKey t k = true) : Iq (.ref p) k S Q = Gq (dget kvs k) Q := by
  simp only [Iq, Gq]
  cases k <;> simp_all [getIx, isKey]
theorem Iq_L {p : Nat} {xs : List PV} {i : Int} {Q : PV → Prop} (h : S[p]? = some (.lst xs)) : Iq (.ref p) (.int i) S Q = Gq (atI xs i) Q := by simp only [Iq, Gq, g_L h]
/-! ### expressions -/
theorem e_con {v : PV} : Wq (evalE cx (.con v) ρ S) P E = P v S := (rfl)
theorem e_glo {k : Nat} : Wq (evalE cx (.glo k) ρ S) P E = Gq cx.T.glob[k]? (fun v => P v S) := Wq_ofO
theorem e_tup {es : CEs} : Wq (evalE cx (.tup es) ρ S) P E = Wq (evalEs cx es ρ S) (fun xs S => xs.length ≤ nsz ∧ P (.tup xs) S) E := by
  simp only [evalE, Wq_bind, Wq_ite, Wq_ok, Wq_stuck]; congr 1; funext xs S; simp
theorem e_lst {es : CEs} : Wq (evalE cx (.lst es) ρ S) P E = Wq (evalEs cx es ρ S) (fun xs S => xs.length ≤ nsz ∧ P (.ref S.length) (S ++ [.lst xs])) E := by
  simp only [evalE, Wq_bind, Wq_ite, Wq_ok, Wq_stuck]; congr 1; funext xs S; simp
theorem e_bin {op : BOp} {a b : CE} : Wq (evalE cx (.bin op a b) ρ S) P E = Wq (evalE cx a ρ S) (fun x S => Wq (evalE cx b ρ S) (fun y S => Wq (bop op x y S) P E) E) E := by simp only [evalE, Wq_bind]
theorem e_neg {a : CE} : Wq (evalE cx (.neg a) ρ S) P E = Wq (evalE cx a ρ S) (fun x S => ∃ i, x = .int i ∧ P (.int (-i)) S) E := by
  simp only [evalE, Wq_bind]; congr 1; funext x S; cases x <;> simp [Wq_ok, Wq_stuck]
theorem e_negi {i : Int} : Wq (evalE cx (.neg (.con (.int i))) ρ S) P E = P (.int (-i)) S := (rfl)
/-- an expression as a test -/
def Tt (cx : Cxi) (e : CE) (ρ : Env) (S : Store) (Q : Bool → Store → Prop) (E : Exn → Store → Prop) : Prop := Wq (evalE cx e ρ S) (fun x S => Tq x S fun k => Q k S) E
theorem e_nt {a : CE} : Wq (evalE cx (.nt a) ρ S) P E = Tt cx a ρ S (fun k S => P (.bl (!k)) S) E := by simp only [evalE, Wq_bind, Wq_ofO, Wq_ok, Tq, Tt]
theorem e_and {a b : CE} : Wq (evalE cx (.and a b) ρ S) P E = Wq (evalE cx a ρ S) (fun x S => Tq x S fun k => Br k (Wq (evalE cx b ρ S) P E) (P x S) .mk .mk) E := by simp only [evalE, Wq_bind, Wq_ofO, Wq_ok, Tq, Br, Wq_ite]
theorem e_or {a b : CE} : Wq (evalE cx (.or a b) ρ S) P E = Wq (evalE cx a ρ S) (fun x S => Tq x S fun k => Br k (P x S) (Wq (evalE cx b ρ S) P E) .mk .mk) E := by simp only [evalE, Wq_bind, Wq_ofO, Wq_ok, Tq, Br, Wq_ite]
theorem e_ife {c a b : CE} : Wq (evalE cx (.ife c a b) ρ S) P E = Wq (evalE cx c ρ S) (fun x S => Tq x S fun k => Br k (Wq (evalE cx a ρ S) P E) (Wq (evalE cx b ρ S) P E) .mk .mk) E := by simp only [evalE, Wq_bind, Wq_ofO, Wq_ok, Tq, Br, Wq_ite]
theorem e_cmp {op : COp} {a b : CE} : Wq (evalE cx (.cmp op a b) ρ S) P E = Wq (evalE cx a ρ S) (fun x S => Wq (evalE cx b ρ S) (fun y S => Cq op x y S fun k => P (.bl k) S) E) E := by simp only [evalE, Wq_bind, Wq_ofO, Wq_ok, Cq]
theorem e_chn {o1 o2 : COp} {a b c : CE} : Wq (evalE cx (.chn o1 o2 a b c) ρ S) P E = Wq (evalE cx a ρ S) (fun x S => Wq (evalE cx b ρ S) (fun y S => Cq o1 x y S fun k => Br k (Wq (evalE cx c ρ S) (fun z S => Cq o2 y z S fun k => P (.bl k) S) E) (P (.bl false) S) .mk .mk) E) E := by simp only [evalE, Wq_bind, Wq_ofO, Wq_ok, Cq, Br, Wq_ite]
theorem e_idx {a b : CE} : Wq (evalE cx (.idx a b) ρ S) P E = Wq (evalE cx a ρ S) (fun x S => Wq (evalE cx b ρ S) (fun y S => Iq x y S fun v => P v S) E) E := by simp only [evalE, Wq_bind, Wq_ofO, Iq]
theorem e_slc {a : CE} {l h : CO} : Wq (evalE cx (.slc a l h) ρ S) P E = Wq (evalE cx a ρ S) (fun x S => Wq (evalO cx l ρ S) (fun l S => Wq (evalO cx h ρ S) (fun h S => Wq (getSl x l h S) P E) E) E) E := by simp only [evalE, Wq_bind]
theorem e_fld {a : CE} {f : Sy} : Wq (evalE cx (.fld a f) ρ S) P E = Wq (evalE cx a ρ S) (fun x S => Gq (getFld cx.T x f S) fun v => P v S) E := by simp only [evalE, Wq_bind, Wq_ofO, Gq]
theorem e_cal {f : Nat} {es : CEs} : Wq (evalE cx (.cal f es) ρ S) P E = Wq (evalEs cx es ρ S) (fun xs S => Wq (cx.call f xs S) P E) E := by simp only [evalE, Wq_bind]
theorem e_mth {a : CE} {m : Sy} {es : CEs} : Wq (evalE cx (.mth a m es) ρ S) P E = Wq (evalE cx a ρ S) (fun x S => Mq cx.T x m S fun tg => Wq (evalEs cx es ρ S) (fun xs S => Wq (runM cx xs S tg) P E) E) E := by simp only [evalE, Wq_bind, Wq_ofO, Mq]
theorem e_dnew {t : Bool} : Wq (evalE cx (.dnew t) ρ S) P E = P (.ref S.length) (S ++ [.dic t []]) := (rfl)
theorem e_lens {a : CE} : Wq (evalE cx (.lens a) ρ S) P E = Wq (evalE cx a ρ S) (fun x S => Gq (lenSet S x) fun v => P v S) E := by simp only [evalE, Wq_bind, Wq_ofO, Gq]
theorem e_mk {c : Nat} {es : CEs} (h : cx.low = true) : Wq (evalE cx (.mk c es) ρ S) P E = Wq (evalEs cx es ρ S) (fun xs S => Wq (makeC cx c xs S) P E) E := by simp only [evalE, h, if_true, Wq_bind]
theorem m_app {p : Nat} {ys : List PV} {y : PV} (h : S[p]? = some (.lst ys)) : Wq (runM cx [y] S (.lst .append p)) P E = (ys.length < nsz ∧ P .non (S.set p (.lst (ys ++ [y])))) := by simp only [runM, lmeth, h, Wq_ite, Wq_ok, Wq_stuck]; simp
theorem m_fn {f p : Nat} {xs : List PV} : Wq (runM cx xs S (.fn f p)) P E = Wq (cx.call f (.ref p :: xs) S) P E := (rfl)
theorem e_bf {b : BF} {es : CEs} : Wq (evalE cx (.bf b es) ρ S) P E = Wq (evalEs cx es ρ S) (fun xs S => Wq (bfun b xs S) P E) E := by simp only [evalE, Wq_bind]
theorem e_bf1 {b : BF} {a : CE} : Wq (evalE cx (.bf b (.cons a .nil)) ρ S) P E = Wq (evalE cx a ρ S) (fun x S => Wq (bfun b [x] S) P E) E := by simp only [evalE, evalEs, Wq_bind, Wq_ok]
theorem e_isi {a : CE} {t : Ty} : Wq (evalE cx (.isi a t) ρ S) P E = Wq (evalE cx a ρ S) (fun x S => Yq x t S fun k => P (.bl k) S) E := by simp only [evalE, Wq_bind, Wq_ofO, Wq_ok, Yq]
theorem es_nil {P : List PV → Store → Prop} : Wq (evalEs cx .nil ρ S) P E = P [] S := (rfl)
theorem es_cons {P : List PV → Store → Prop} {e : CE} {es : CEs} : Wq (evalEs cx (.cons e es) ρ S) P E = Wq (evalE cx e ρ S) (fun x S => Wq (evalEs cx es ρ S) (fun xs S => P (x :: xs) S) E) E := by simp only [evalEs, Wq_bind, Wq_ok]
theorem eo_no {P : Option Int → Store → Prop} : Wq (evalO cx .no ρ S) P E = P none S := (rfl)
theorem eo_ex {P : Option Int → Store → Prop} {e : CE} : Wq (evalO cx (.ex e) ρ S) P E = Wq (evalE cx e ρ S) (fun x S => ∃ i, x = .int i ∧ P (some i) S) E := by
  simp only [evalO, Wq_bind]; congr 1; funext x S; cases x <;> simp [Wq_ok, Wq_stuck]
theorem i_seq {P : ItV → Store → Prop} {e : CE} : Wq (iterE cx (.seq e) ρ S) P E = Wq (evalE cx e ρ S) (fun x S => Wq (seqIt x S) P E) E := by simp only [iterE, Wq_bind]
theorem i_rng {P : ItV → Store → Prop} {e : CE} : Wq (iterE cx (.rng e) ρ S) P E = Wq (evalE cx e ρ S) (fun x S => ∃ j, x = .int j ∧ (-W62 ≤ j ∧ j < W62) ∧ P (.rng 0 j.toNat) S) E := by
  simp only [iterE, Wq_bind]; congr 1; funext x S; cases x <;> simp [Wq_ok, Wq_stuck, Wq_ite]
theorem i_rng2 {P : ItV → Store → Prop} {a b : CE} : Wq (iterE cx (.rng2 a b) ρ S) P E = Wq (evalE cx a ρ S) (fun x S => Wq (evalE cx b ρ S) (fun y S => ∃ i j, x = .int i ∧ y = .int j ∧ (-W62 ≤ i ∧ i < W62 ∧ -W62 ≤ j ∧ j < W62) ∧ P (.rng i (j - i).toNat) S) E) E := by
  simp only [iterE, Wq_bind]; congr 1; funext x S; congr 1; funext y S; cases x <;> cases y <;> simp [Wq_ok, Wq_stuck, Wq_ite]
theorem q_tup {P : ItV → Store → Prop} {xs : List PV} : Wq (seqIt (.tup xs) S) P E = P (.seq xs) S := (rfl)
theorem q_rol {P : ItV → Store → Prop} {xs : List PV} : Wq (seqIt (.rol xs) S) P E = P (.seq xs) S := (rfl)
theorem q_str {P : ItV → Store → Prop} {xs : Sy} : Wq (seqIt (.str xs) S) P E = P (.str xs) S := (rfl)
theorem q_L {P : ItV → Store → Prop} {p : Nat} {xs : List PV} (h : S[p]? = some (.lst xs)) : Wq (seqIt (.ref p) S) P E = P (.ref p) S := by simp only [seqIt, h, Wq_ok]
theorem o_addi {i j : Int} : Wq (bop .add (.int i) (.int j) S) P E = P (.int (i + j)) S := (rfl)
theorem o_subi {i j : Int} : Wq (bop .sub (.int i) (.int j) S) P E = P (.int (i - j)) S := (rfl)
theorem o_p9 : Wq (bop .pow (.int 10) (.int 9) S) P E = P (.int 1000000000) S := (rfl)
theorem o_addt {a b : List PV} : Wq (bop .add (.tup a) (.tup b) S) P E = (a.length + b.length ≤ nsz ∧ P (.tup (a ++ b)) S) := by simp only [bop, Wq_ite, Wq_ok, Wq_stuck]; simp
theorem o_adds {a b : Sy} : Wq (bop .add (.str a) (.str b) S) P E = (a.length + b.length ≤ nsz ∧ P (.str (a ++ b)) S) := by simp only [bop, Wq_ite, Wq_ok, Wq_stuck]; simp
theorem o_addl {p q : Nat} {a b : List PV} (h : S[p]? = some (.lst a)) (h2 : S[q]? = some (.lst b)) : Wq (bop .add (.ref p) (.ref q) S) P E = (a.length + b.length ≤ nsz ∧ P (.ref S.length) (S ++ [.lst (a ++ b)])) := by simp only [bop, h, h2, Wq_ite, Wq_ok, Wq_stuck]; simp
theorem o_mult {a : List PV} {k : Int} : Wq (bop .mul (.tup a) (.int k) S) P E = ((a ≠ [] ∧ 2 ≤ k ∧ k ≤ 1000 ∧ a.length ≤ 1000) ∧ P (.tup (List.replicate k.toNat a).flatten) S) := by simp only [bop, Wq_ite, Wq_ok, Wq_stuck]; simp [-Int.reduceLE]
theorem o_slct {xs : List PV} {l h : Option Int} : Wq (getSl (.tup xs) l h S) P E = P (.tup (cutL xs l h)) S := (rfl)
theorem o_slcl {p : Nat} {xs : List PV} {l h : Option Int} (hp : S[p]? = some (.lst xs)) : Wq (getSl (.ref p) l h S) P E = P (.ref S.length) (S ++ [.lst (cutL xs l h)]) := by simp only [getSl, hp, Wq_ok]
theorem u_lenT {xs : List PV} : Wq (bfun .len [.tup xs] S) P E = P (.int xs.length) S := (rfl)
theorem u_lenC {xs : List PV} : Wq (bfun .len [.rol xs] S) P E = P (.int xs.length) S := (rfl)
theorem u_lenS {x : Sy} (h : x.length ≤ nsz) : Wq (bfun .len [.str x] S) P E = P (.int x.length) S := by rw [f_lenS h, Wq_ok]
theorem u_lenL {p : Nat} {xs : List PV} (h : S[p]? = some (.lst xs)) : Wq (bfun .len [.ref p] S) P E = P (.int xs.length) S := by rw [f_lenL h, Wq_ok]
theorem u_int {i : Int} : Wq (bfun .int [.int i] S) P E = P (.int i) S := (rfl)
theorem u_abs {i : Int} : Wq (bfun .abs [.int i] S) P E = P (.int (if i < 0 then -i else i)) S := (rfl)
theorem u_max {i j : Int} : Wq (bfun .max [.int i, .int j] S) P E = P (.int (if j > i then j else i)) S := (rfl)
theorem u_min {i j : Int} : Wq (bfun .min [.int i, .int j] S) P E = P (.int (if j < i then j else i)) S := (rfl)
theorem u_tupT {xs : List PV} : Wq (bfun .tuple [.tup xs] S) P E = P (.tup xs) S := (rfl)
theorem u_tupL {p : Nat} {xs : List PV} (h : S[p]? = some (.lst xs)) : Wq (bfun .tuple [.ref p] S) P E = P (.tup xs) S := by simp only [bfun, h, Wq_ok]
theorem u_lstT {xs : List PV} : Wq (bfun .list [.tup xs] S) P E = P (.ref S.length) (S ++ [.lst xs]) := (rfl)
theorem u_lstC {xs : List PV} : Wq (bfun .list [.rol xs] S) P E = P (.ref S.length) (S ++ [.lst xs]) := (rfl)
theorem u_lstL {p : Nat} {xs : List PV} (h : S[p]? = some (.lst xs)) : Wq (bfun .list [.ref p] S) P E = P (.ref S.length) (S ++ [.lst xs]) := by simp only [bfun, h, Wq_ok]
theorem T_idx {a b : CE} {Q : Bool → Store → Prop} : Tt cx (.idx a b) ρ S Q E = Wq (evalE cx (.idx a b) ρ S) (fun x S => Tq x S fun k => Q k S) E := (rfl)
theorem T_cal {f : Nat} {es : CEs} {Q : Bool → Store → Prop} : Tt cx (.cal f es) ρ S Q E = Wq (evalE cx (.cal f es) ρ S) (fun x S => Tq x S fun k => Q k S) E := (rfl)
theorem T_bf {b : BF} {es : CEs} {Q : Bool → Store → Prop} : Tt cx (.bf b es) ρ S Q E = Wq (evalE cx (.bf b es) ρ S) (fun x S => Tq x S fun k => Q k S) E := (rfl)
theorem T_bin {o : BOp} {a b : CE} {Q : Bool → Store → Prop} : Tt cx (.bin o a b) ρ S Q E = Wq (evalE cx (.bin o a b) ρ S) (fun x S => Tq x S fun k => Q k S) E := (rfl)
theorem T_tup {es : CEs} {Q : Bool → Store → Prop} : Tt cx (.tup es) ρ S Q E = Wq (evalE cx (.tup es) ρ S) (fun x S => Tq x S fun k => Q k S) E := (rfl)
theorem T_fld {a : CE} {f : Sy} {Q : Bool → Store → Prop} : Tt cx (.fld a f) ρ S Q E = Wq (evalE cx (.fld a f) ρ S) (fun x S => Tq x S fun k => Q k S) E := (rfl)
theorem T_mth {a : CE} {m : Sy} {es : CEs} {Q : Bool → Store → Prop} : Tt cx (.mth a m es) ρ S Q E = Wq (evalE cx (.mth a m es) ρ S) (fun x S => Tq x S fun k => Q k S) E := (rfl)
theorem T_ife {a b c : CE} {Q : Bool → Store → Prop} : Tt cx (.ife a b c) ρ S Q E = Wq (evalE cx (.ife a b c) ρ S) (fun x S => Tq x S fun k => Q k S) E := (rfl)
theorem T_var {i : Nat} {Q : Bool → Store → Prop} : Tt cx (.var i) ρ S Q E = Wq (evalE cx (.var i) ρ S) (fun x S => Tq x S fun k => Q k S) E := (rfl)
theorem T_glo {i : Nat} {Q : Bool → Store → Prop} : Tt cx (.glo i) ρ S Q E = Wq (evalE cx (.glo i) ρ S) (fun x S => Tq x S fun k => Q k S) E := (rfl)
theorem T_con {v : PV} {Q : Bool → Store → Prop} : Tt cx (.con v) ρ S Q E = Wq (evalE cx (.con v) ρ S) (fun x S => Tq x S fun k => Q k S) E := (rfl)
theorem T_cmp {op : COp} {a b : CE} {Q : Bool → Store → Prop} : Tt cx (.cmp op a b) ρ S Q E = Wq (evalE cx a ρ S) (fun x S => Wq (evalE cx b ρ S) (fun y S => Cq op x y S fun k => Q k S) E) E := by simp only [Tt, e_cmp, Tq_bl]
theorem T_chn {o1 o2 : COp} {a b c : CE} {Q : Bool → Store → Prop} : Tt cx (.chn o1 o2 a b c) ρ S Q E = Wq (evalE cx a ρ S) (fun x S => Wq (evalE cx b ρ S) (fun y S => Cq o1 x y S fun k => Br k (Wq (evalE cx c ρ S) (fun z S => Cq o2 y z S fun k => Q k S) E) (Q false S) .mk .mk) E) E := by simp only [Tt, e_chn, Br, Tq_bl]
theorem T_isi {a : CE} {t : Ty} {Q : Bool → Store → Prop} : Tt cx (.isi a t) ρ S Q E = Wq (evalE cx a ρ S) (fun x S => Yq x t S fun k => Q k S) E := by simp only [Tt, e_isi, Tq_bl]
theorem T_nt {a : CE} {Q : Bool → Store → Prop} : Tt cx (.nt a) ρ S Q E = Tt cx a ρ S (fun k S => Q (!k) S) E := by simp only [Tt, evalE, Wq_bind, Wq_ofO, Wq_ok, Tq_bl, Tq]; simp [tr_bl]
theorem T_and {a b : CE} {Q : Bool → Store → Prop} : Tt cx (.and a b) ρ S Q E = Tt cx a ρ S (fun k S => Br k (Tt cx b ρ S Q E) (Q false S) .mk .mk) E := by
  have := Wt_and (cx := cx) (a := a) (b := b) (ρ := ρ) (S := S) (Q := Q) (E := E)
  simp only [Wt] at this
  simpa only [Tt, Tq, Br, Wt] using this
theorem T_or {a b : CE} {Q : Bool → Store → Prop} : Tt cx (.or a b) ρ S Q E = Tt cx a ρ S (fun k S => Br k (Q true S) (Tt cx b ρ S Q E) .mk .mk) E := by
  have := Wt_or (cx := cx) (a := a) (b := b) (ρ := ρ) (S := S) (Q := Q) (E := E)
  simp only [Wt] at this
  simpa only [Tt, Tq, Br, Wt] using this
/-! ### statements -/
theorem y_cons {s : CS} {ss : CSs} : Ws (execB cx (.cons s ss) ρ S) K EX = Ws (execS cx s ρ S) (nxt cx ss K EX) EX := W_cons
theorem y_if {c : CE} {a b : CSs} : Ws (execS cx (.ite c a b) ρ S) K EX = Tt cx c ρ S (fun k S => Br k (Ws (execB cx a ρ S) K EX) (Ws (execB cx b ρ S) K EX) .mk .mk) (fun x S => EX x ρ S) := by
  simp only [W_if, Wt, Tq, Br, Tt]
theorem y_aug {i : Nat} {e : CE} {op : BOp} : Ws (execS cx (.aug i op e) ρ S) K EX = Wq (getV ρ i S) (fun x S => Wq (evalE cx e ρ S) (fun y S => ∃ a b, x = .int a ∧ y = .int b ∧ (op = .add ∨ op = .sub) ∧ Wq (bop op x y S) (fun z S => K (.nx (ρ.set i (some z))) S) (fun x S => EX x ρ S)) (fun x S => EX x ρ S)) (fun x S => EX x ρ S) := by
  simp only [execS, Ws_at]
  congr 1; funext x S; congr 1; funext y S
  cases x <;> cases y <;> cases op <;> simp [Ws_stuck, Ws_at, Ws_ok]

theorem v_0 {v : PV} {r : Env} : Wq (evalE cx (.var 0) (some v :: r) S) P E = P v S := (rfl)
theorem n_0 {w : Option PV} {r : Env} {e : CE} : Ws (execS cx (.asg (.name 0) e) (w :: r) S) K EX = Wq (evalE cx e (w :: r) S) (fun v S => K (.nx (some v :: r)) S) (fun x S => EX x (w :: r) S) := by
  rw [W_asgn]; congr 1; funext v S; simp [List.set]
theorem g_0 {v : PV} {r : Env} : Wq (getV (some v :: r) 0 S) P E = P v S := (rfl)
theorem t_0 {w : Option PV} {v : PV} {r : Env} {P : Env → Store → Prop} : Wq (assignE cx (.name 0) v (w :: r) S) P E = P (some v :: r) S := by
  rw [assignE, if_pos (by simp only [List.length_cons]; omega)]; rfl
theorem v_1 {a0 : Option PV} {v : PV} {r : Env} : Wq (evalE cx (.var 1) (a0 :: some v :: r) S) P E = P v S := (rfl)
theorem n_1 {a0 : Option PV} {w : Option PV} {r : Env} {e : CE} : Ws (execS cx (.asg (.name 1) e) (a0 :: w :: r) S) K EX = Wq (evalE cx e (a0 :: w :: r) S) (fun v S => K (.nx (a0 :: some v :: r)) S) (fun x S => EX x (a0 :: w :: r) S) := by
  rw [W_asgn]; congr 1; funext v S; simp [List.set]
theorem g_1 {a0 : Option PV} {v : PV} {r : Env} : Wq (getV (a0 :: some v :: r) 1 S) P E = P v S := (rfl)
theorem t_1 {a0 : Option PV} {w : Option PV} {v : PV} {r : Env} {P : Env → Store → Prop} : Wq (assignE cx (.name 1) v (a0 :: w :: r) S) P E = P (a0 :: some v :: r) S := by
  rw [assignE, if_pos (by simp only [List.length_cons]; omega)]; rfl
theorem v_2 {a0 a1 : Option PV} {v : PV} {r : Env} : Wq (evalE cx (.var 2) (a0 :: a1 :: some v :: r) S) P E = P v S := (rfl)
theorem n_2 {a0 a1 : Option PV} {w : Option PV} {r : Env} {e : CE} : Ws (execS cx (.asg (.name 2) e) (a0 :: a1 :: w :: r) S) K EX = Wq (evalE cx e (a0 :: a1 :: w :: r) S) (fun v S => K (.nx (a0 :: a1 :: some v :: r)) S) (fun x S => EX x (a0 :: a1 :: w :: r) S) := by
  rw [W_asgn]; congr 1; funext v S; simp [List.set]
theorem g_2 {a0 a1 : Option PV} {v : PV} {r : Env} : Wq (getV (a0 :: a1 :: some v :: r) 2 S) P E = P v S := (rfl)
theorem t_2 {a0 a1 : Option PV} {w : Option PV} {v : PV} {r : Env} {P : Env → Store → Prop} : Wq (assignE cx (.name 2) v (a0 :: a1 :: w :: r) S) P E = P (a0 :: a1 :: some v :: r) S := by
  rw [assignE, if_pos (by simp only [List.length_cons]; omega)]; rfl
theorem v_3 {a0 a1 a2 : Option PV} {v : PV} {r : Env} : Wq (evalE cx (.var 3) (a0 :: a1 :: a2 :: some v :: r) S) P E = P v S := (rfl)
theorem n_3 {a0 a1 a2 : Option PV} {w : Option PV} {r : Env} {e : CE} : Ws (execS cx (.asg (.name 3) e) (a0 :: a1 :: a2 :: w :: r) S) K EX = Wq (evalE cx e (a0 :: a1 :: a2 :: w :: r) S) (fun v S => K (.nx (a0 :: a1 :: a2 :: some v :: r)) S) (fun x S => EX x (a0 :: a1 :: a2 :: w :: r) S) := by
  rw [W_asgn]; congr 1; funext v S; simp [List.set]
theorem g_3 {a0 a1 a2 : Option PV} {v : PV} {r : Env} : Wq (getV (a0 :: a1 :: a2 :: some v :: r) 3 S) P E = P v S := (rfl)
theorem t_3 {a0 a1 a2 : Option PV} {w : Option PV} {v : PV} {r : Env} {P : Env → Store → Prop} : Wq (assignE cx (.name 3) v (a0 :: a1 :: a2 :: w :: r) S) P E = P (a0 :: a1 :: a2 :: some v :: r) S := by
  rw [assignE, if_pos (by simp only [List.length_cons]; omega)]; rfl
theorem v_4 {a0 a1 a2 a3 : Option PV} {v : PV} {r : Env} : Wq (evalE cx (.var 4) (a0 :: a1 :: a2 :: a3 :: some v :: r) S) P E = P v S := (rfl)
theorem n_4 {a0 a1 a2 a3 : Option PV} {w : Option PV} {r : Env} {e : CE} : Ws (execS cx (.asg (.name 4) e) (a0 :: a1 :: a2 :: a3 :: w :: r) S) K EX = Wq (evalE cx e (a0 :: a1 :: a2 :: a3 :: w :: r) S) (fun v S => K (.nx (a0 :: a1 :: a2 :: a3 :: some v :: r)) S) (fun x S => EX x (a0 :: a1 :: a2 :: a3 :: w :: r) S) := by
  rw [W_asgn]; congr 1; funext v S; simp [List.set]
theorem g_4 {a0 a1 a2 a3 : Option PV} {v : PV} {r : Env} : Wq (getV (a0 :: a1 :: a2 :: a3 :: some v :: r) 4 S) P E = P v S := (rfl)
theorem t_4 {a0 a1 a2 a3 : Option PV} {w : Option PV} {v : PV} {r : Env} {P : Env → Store → Prop} : Wq (assignE cx (.name 4) v (a0 :: a1 :: a2 :: a3 :: w :: r) S) P E = P (a0 :: a1 :: a2 :: a3 :: some v :: r) S := by
  rw [assignE, if_pos (by simp only [List.length_cons]; omega)]; rfl
theorem v_5 {a0 a1 a2 a3 a4 : Option PV} {v : PV} {r : Env} : Wq (evalE cx (.var 5) (a0 :: a1 :: a2 :: a3 :: a4 :: some v :: r) S) P E = P v S := (rfl)
theorem n_5 {a0 a1 a2 a3 a4 : Option PV} {w : Option PV} {r : Env} {e : CE} : Ws (execS cx (.asg (.name 5) e) (a0 :: a1 :: a2 :: a3 :: a4 :: w :: r) S) K EX = Wq (evalE cx e (a0 :: a1 :: a2 :: a3 :: a4 :: w :: r) S) (fun v S => K (.nx (a0 :: a1 :: a2 :: a3 :: a4 :: some v :: r)) S) (fun x S => EX x (a0 :: a1 :: a2 :: a3 :: a4 :: w :: r) S) := by
  rw [W_asgn]; congr 1; funext v S; simp [List.set]
theorem g_5 {a0 a1 a2 a3 a4 : Option PV} {v : PV} {r : Env} : Wq (getV (a0 :: a1 :: a2 :: a3 :: a4 :: some v :: r) 5 S) P E = P v S := (rfl)
theorem t_5 {a0 a1 a2 a3 a4 : Option PV} {w : Option PV} {v : PV} {r : Env} {P : Env → Store → Prop} : Wq (assignE cx (.name 5) v (a0 :: a1 :: a2 :: a3 :: a4 :: w :: r) S) P E = P (a0 :: a1 :: a2 :: a3 :: a4 :: some v :: r) S := by
  rw [assignE, if_pos (by simp only [List.length_cons]; omega)]; rfl
theorem v_6 {a0 a1 a2 a3 a4 a5 : Option PV} {v : PV} {r : Env} : Wq (evalE cx (.var 6) (a0 :: a1 :: a2 :: a3 :: a4 :: a5 :: some v :: r) S) P E = P v S := (rfl)
theorem n_6 {a0 a1 a2 a3 a4 a5 : Option PV} {w : Option PV} {r : Env} {e : CE} : Ws (execS cx (.asg (.name 6) e) (a0 :: a1 :: a2 :: a3 :: a4 :: a5 :: w :: r) S) K EX = Wq (evalE cx e (a0 :: a1 :: a2 :: a3 :: a4 :: a5 :: w :: r) S) (fun v S => K (.nx (a0 :: a1 :: a2 :: a3 :: a4 :: a5 :: some v :: r)) S) (fun x S => EX x (a0 :: a1 :: a2 :: a3 :: a4 :: a5 :: w :: r) S) := by
  rw [W_asgn]; congr 1; funext v S; simp [List.set]
theorem g_6 {a0 a1 a2 a3 a4 a5 : Option PV} {v : PV} {r : Env} : Wq (getV (a0 :: a1 :: a2 :: a3 :: a4 :: a5 :: some v :: r) 6 S) P E = P v S := (rfl)
theorem t_6 {a0 a1 a2 a3 a4 a5 : Option PV} {w : Option PV} {v : PV} {r : Env} {P : Env → Store → Prop} : Wq (assignE cx (.name 6) v (a0 :: a1 :: a2 :: a3 :: a4 :: a5 :: w :: r) S) P E = P (a0 :: a1 :: a2 :: a3 :: a4 :: a5 :: some v :: r) S := by
  rw [assignE, if_pos (by simp only [List.length_cons]; omega)]; rfl
theorem v_7 {a0 a1 a2 a3 a4 a5 a6 : Option PV} {v : PV} {r : Env} : Wq (evalE cx (.var 7) (a0 :: a1 :: a2 :: a3 :: a4 :: a5 :: a6 :: some v :: r) S) P E = P v S := (rfl)
theorem n_7 {a0 a1 a2 a3 a4 a5 a6 : Option PV} {w : Option PV} {r : Env} {e : CE} : Ws (execS cx (.asg (.name 7) e) (a0 :: a1 :: a2 :: a3 :: a4 :: a5 :: a6 :: w :: r) S) K EX = Wq (evalE cx e (a0 :: a1 :: a2 :: a3 :: a4 :: a5 :: a6 :: w :: r) S) (fun v S => K (.nx (a0 :: a1 :: a2 :: a3 :: a4 :: a5 :: a6 :: some v :: r)) S) (fun x S => EX x (a0 :: a1 :: a2 :: a3 :: a4 :: a5 :: a6 :: w :: r) S) := by
  rw [W_asgn]; congr 1; funext v S; simp [List.set]
theorem g_7 {a0 a1 a2 a3 a4 a5 a6 : Option PV} {v : PV} {r : Env} : Wq (getV (a0 :: a1 :: a2 :: a3 :: a4 :: a5 :: a6 :: some v :: r) 7 S) P E = P v S := (rfl)
theorem t_7 {a0 a1 a2 a3 a4 a5 a6 : Option PV} {w : Option PV} {v : PV} {r : Env} {P : Env → Store → Prop} : Wq (assignE cx (.name 7) v (a0 :: a1 :: a2 :: a3 :: a4 :: a5 :: a6 :: w :: r) S) P E = P (a0 :: a1 :: a2 :: a3 :: a4 :: a5 :: a6 :: some v :: r) S := by
  rw [assignE, if_pos (by simp only [List.length_cons]; omega)]; rfl
theorem v_8 {a0 a1 a2 a3 a4 a5 a6 a7 : Option PV} {v : PV} {r : Env} : Wq (evalE cx (.var 8) (a0 :: a1 :: a2 :: a3 :: a4 :: a5 :: a6 :: a7 :: some v :: r) S) P E = P v S := (rfl)
theorem n_8 {a0 a1 a2 a3 a4 a5 a6 a7 : Option PV} {w : Option PV} {r : Env} {e : CE} : Ws (execS cx (.asg (.name 8) e) (a0 :: a1 :: a2 :: a3 :: a4 :: a5 :: a6 :: a7 :: w :: r) S) K EX = Wq (evalE cx e (a0 :: a1 :: a2 :: a3 :: a4 :: a5 :: a6 :: a7 :: w :: r) S) (fun v S => K (.nx (a0 :: a1 :: a2 :: a3 :: a4 :: a5 :: a6 :: a7 :: some v :: r)) S) (fun x S => EX x (a0 :: a1 :: a2 :: a3 :: a4 :: a5 :: a6 :: a7 :: w :: r) S) := by
  rw [W_asgn]; congr 1; funext v S; simp [List.set]
theorem g_8 {a0 a1 a2 a3 a4 a5 a6 a7 : Option PV} {v : PV} {r : Env} : Wq (getV (a0 :: a1 :: a2 :: a3 :: a4 :: a5 :: a6 :: a7 :: some v :: r) 8 S) P E = P v S := (rfl)
theorem t_8 {a0 a1 a2 a3 a4 a5 a6 a7 : Option PV} {w : Option PV} {v : PV} {r : Env} {P : Env → Store → Prop} : Wq (assignE cx (.name 8) v (a0 :: a1 :: a2 :: a3 :: a4 :: a5 :: a6 :: a7 :: w :: r) S) P E = P (a0 :: a1 :: a2 :: a3 :: a4 :: a5 :: a6 :: a7 :: some v :: r) S := by
  rw [assignE, if_pos (by simp only [List.length_cons]; omega)]; rfl
theorem v_9 {a0 a1 a2 a3 a4 a5 a6 a7 a8 : Option PV} {v : PV} {r : Env} : Wq (evalE cx (.var 9) (a0 :: a1 :: a2 :: a3 :: a4 :: a5 :: a6 :: a7 :: a8 :: some v :: r) S) P E = P v S := (rfl)
theorem n_9 {a0 a1 a2 a3 a4 a5 a6 a7 a8 : Option PV} {w : Option PV} {r : Env} {e : CE} : Ws (execS cx (.asg (.name 9) e) (a0 :: a1 :: a2 :: a3 :: a4 :: a5 :: a6 :: a7 :: a8 :: w :: r) S) K EX = Wq (evalE cx e (a0 :: a1 :: a2 :: a3 :: a4 :: a5 :: a6 :: a7 :: a8 :: w :: r) S) (fun v S => K (.nx (a0 :: a1 :: a2 :: a3 :: a4 :: a5 :: a6 :: a7 :: a8 :: some v :: r)) S) (fun x S => EX x (a0 :: a1 :: a2 :: a3 :: a4 :: a5 :: a6 :: a7 :: a8 :: w :: r) S) := by
  rw [W_asgn]; congr 1; funext v S; simp [List.set]
theorem g_9 {a0 a1 a2 a3 a4 a5 a6 a7 a8 : Option PV} {v : PV} {r : Env} : Wq (getV (a0 :: a1 :: a2 :: a3 :: a4 :: a5 :: a6 :: a7 :: a8 :: some v :: r) 9 S) P E = P v S := (rfl)
theorem t_9 {a0 a1 a2 a3 a4 a5 a6 a7 a8 : Option PV} {w : Option PV} {v : PV} {r : Env} {P : Env → Store → Prop} : Wq (assignE cx (.name 9) v (a0 :: a1 :: a2 :: a3 :: a4 :: a5 :: a6 :: a7 :: a8 :: w :: r) S) P E = P (a0 :: a1 :: a2 :: a3 :: a4 :: a5 :: a6 :: a7 :: a8 :: some v :: r) S := by
  rw [assignE, if_pos (by simp only [List.length_cons]; omega)]; rfl
theorem v_10 {a0 a1 a2 a3 a4 a5 a6 a7 a8 a9 : Option PV} {v : PV} {r : Env} : Wq (evalE cx (.var 10) (a0 :: a1 :: a2 :: a3 :: a4 :: a5 :: a6 :: a7 :: a8 :: a9 :: some v :: r) S) P E = P v S := (rfl)
theorem n_10 {a0 a1 a2 a3 a4 a5 a6 a7 a8 a9 : Option PV} {w : Option PV} {r : Env} {e : CE} : Ws (execS cx (.asg (.name 10) e) (a0 :: a1 :: a2 :: a3 :: a4 :: a5 :: a6 :: a7 :: a8 :: a9 :: w :: r) S) K EX = Wq (evalE cx e (a0 :: a1 :: a2 :: a3 :: a4 :: a5 :: a6 :: a7 :: a8 :: a9 :: w :: r) S) (fun v S => K (.nx (a0 :: a1 :: a2 :: a3 :: a4 :: a5 :: a6 :: a7 :: a8 :: a9 :: some v :: r)) S) (fun x S => EX x (a0 :: a1 :: a2 :: a3 :: a4 :: a5 :: a6 :: a7 :: a8 :: a9 :: w :: r) S) := by
  rw [W_asgn]; congr 1; funext v S; simp [List.set]
theorem g_10 {a0 a1 a2 a3 a4 a5 a6 a7 a8 a9 : Option PV} {v : PV} {r : Env} : Wq (getV (a0 :: a1 :: a2 :: a3 :: a4 :: a5 :: a6 :: a7 :: a8 :: a9 :: some v :: r) 10 S) P E = P v S := (rfl)
theorem t_10 {a0 a1 a2 a3 a4 a5 a6 a7 a8 a9 : Option PV} {w : Option PV} {v : PV} {r : Env} {P : Env → Store → Prop} : Wq (assignE cx (.name 10) v (a0 :: a1 :: a2 :: a3 :: a4 :: a5 :: a6 :: a7 :: a8 :: a9 :: w :: r) S) P E = P (a0 :: a1 :: a2 :: a3 :: a4 :: a5 :: a6 :: a7 :: a8 :: a9 :: some v :: r) S := by
  rw [assignE, if_pos (by simp only [List.length_cons]; omega)]; rfl
theorem v_11 {a0 a1 a2 a3 a4 a5 a6 a7 a8 a9 a10 : Option PV} {v : PV} {r : Env} : Wq (evalE cx (.var 11) (a0 :: a1 :: a2 :: a3 :: a4 :: a5 :: a6 :: a7 :: a8 :: a9 :: a10 :: some v :: r) S) P E = P v S := (rfl)
theorem n_11 {a0 a1 a2 a3 a4 a5 a6 a7 a8 a9 a10 : Option PV} {w : Option PV} {r : Env} {e : CE} : Ws (execS cx (.asg (.name 11) e) (a0 :: a1 :: a2 :: a3 :: a4 :: a5 :: a6 :: a7 :: a8 :: a9 :: a10 :: w :: r) S) K EX = Wq (evalE cx e (a0 :: a1 :: a2 :: a3 :: a4 :: a5 :: a6 :: a7 :: a8 :: a9 :: a10 :: w :: r) S) (fun v S => K (.nx (a0 :: a1 :: a2 :: a3 :: a4 :: a5 :: a6 :: a7 :: a8 :: a9 :: a10 :: some v :: r)) S) (fun x S => EX x (a0 :: a1 :: a2 :: a3 :: a4 :: a5 :: a6 :: a7 :: a8 :: a9 :: a10 :: w :: r) S) := by
  rw [W_asgn]; congr 1; funext v S; simp [List.set]
theorem g_11 {a0 a1 a2 a3 a4 a5 a6 a7 a8 a9 a10 : Option PV} {v : PV} {r : Env} : Wq (getV (a0 :: a1 :: a2 :: a3 :: a4 :: a5 :: a6 :: a7 :: a8 :: a9 :: a10 :: some v :: r) 11 S) P E = P v S := (rfl)
theorem t_11 {a0 a1 a2 a3 a4 a5 a6 a7 a8 a9 a10 : Option PV} {w : Option PV} {v : PV} {r : Env} {P : Env → Store → Prop} : Wq (assignE cx (.name 11) v (a0 :: a1 :: a2 :: a3 :: a4 :: a5 :: a6 :: a7 :: a8 :: a9 :: a10 :: w :: r) S) P E = P (a0 :: a1 :: a2 :: a3 :: a4 :: a5 :: a6 :: a7 :: a8 :: a9 :: a10 :: some v :: r) S := by
  rw [assignE, if_pos (by simp only [List.length_cons]; omega)]; rfl
theorem v_12 {a0 a1 a2 a3 a4 a5 a6 a7 a8 a9 a10 a11 : Option PV} {v : PV} {r : Env} : Wq (evalE cx (.var 12) (a0 :: a1 :: a2 :: a3 :: a4 :: a5 :: a6 :: a7 :: a8 :: a9 :: a10 :: a11 :: some v :: r) S) P E = P v S := (rfl)
theorem n_12 {a0 a1 a2 a3 a4 a5 a6 a7 a8 a9 a10 a11 : Option PV} {w : Option PV} {r : Env} {e : CE} : Ws (execS cx (.asg (.name 12) e) (a0 :: a1 :: a2 :: a3 :: a4 :: a5 :: a6 :: a7 :: a8 :: a9 :: a10 :: a11 :: w :: r) S) K EX = Wq (evalE cx e (a0 :: a1 :: a2 :: a3 :: a4 :: a5 :: a6 :: a7 :: a8 :: a9 :: a10 :: a11 :: w :: r) S) (fun v S => K (.nx (a0 :: a1 :: a2 :: a3 :: a4 :: a5 :: a6 :: a7 :: a8 :: a9 :: a10 :: a11 :: some v :: r)) S) (fun x S => EX x (a0 :: a1 :: a2 :: a3 :: a4 :: a5 :: a6 :: a7 :: a8 :: a9 :: a10 :: a11 :: w :: r) S) := by
  rw [W_asgn]; congr 1; funext v S; simp [List.set]
theorem g_12 {a0 a1 a2 a3 a4 a5 a6 a7 a8 a9 a10 a11 : Option PV} {v : PV} {r : Env} : Wq (getV (a0 :: a1 :: a2 :: a3 :: a4 :: a5 :: a6 :: a7 :: a8 :: a9 :: a10 :: a11 :: some v :: r) 12 S) P E = P v S := (rfl)
theorem t_12 {a0 a1 a2 a3 a4 a5 a6 a7 a8 a9 a10 a11 : Option PV} {w : Option PV} {v : PV} {r : Env} {P : Env → Store → Prop} : Wq (assignE cx (.name 12) v (a0 :: a1 :: a2 :: a3 :: a4 :: a5 :: a6 :: a7 :: a8 :: a9 :: a10 :: a11 :: w :: r) S) P E = P (a0 :: a1 :: a2 :: a3 :: a4 :: a5 :: a6 :: a7 :: a8 :: a9 :: a10 :: a11 :: some v :: r) S := by
  rw [assignE, if_pos (by simp only [List.length_cons]; omega)]; rfl
theorem v_13 {a0 a1 a2 a3 a4 a5 a6 a7 a8 a9 a10 a11 a12 : Option PV} {v : PV} {r : Env} : Wq (evalE cx (.var 13) (a0 :: a1 :: a2 :: a3 :: a4 :: a5 :: a6 :: a7 :: a8 :: a9 :: a10 :: a11 :: a12 :: some v :: r) S) P E = P v S := (rfl)
theorem n_13 {a0 a1 a2 a3 a4 a5 a6 a7 a8 a9 a10 a11 a12 : Option PV} {w : Option PV} {r : Env} {e : CE} : Ws (execS cx (.asg (.name 13) e) (a0 :: a1 :: a2 :: a3 :: a4 :: a5 :: a6 :: a7 :: a8 :: a9 :: a10 :: a11 :: a12 :: w :: r) S) K EX = Wq (evalE cx e (a0 :: a1 :: a2 :: a3 :: a4 :: a5 :: a6 :: a7 :: a8 :: a9 :: a10 :: a11 :: a12 :: w :: r) S) (fun v S => K (.nx (a0 :: a1 :: a2 :: a3 :: a4 :: a5 :: a6 :: a7 :: a8 :: a9 :: a10 :: a11 :: a12 :: some v :: r)) S) (fun x S => EX x (a0 :: a1 :: a2 :: a3 :: a4 :: a5 :: a6 :: a7 :: a8 :: a9 :: a10 :: a11 :: a12 :: w :: r) S) := by
  rw [W_asgn]; congr 1; funext v S; simp [List.set]
theorem g_13 {a0 a1 a2 a3 a4 a5 a6 a7 a8 a9 a10 a11 a12 : Option PV} {v : PV} {r : Env} : Wq (getV (a0 :: a1 :: a2 :: a3 :: a4 :: a5 :: a6 :: a7 :: a8 :: a9 :: a10 :: a11 :: a12 :: some v :: r) 13 S) P E = P v S := (rfl)
theorem t_13 {a0 a1 a2 a3 a4 a5 a6 a7 a8 a9 a10 a11 a12 : Option PV} {w : Option PV} {v : PV} {r : Env} {P : Env → Store → Prop} : Wq (assignE cx (.name 13) v (a0 :: a1 :: a2 :: a3 :: a4 :: a5 :: a6 :: a7 :: a8 :: a9 :: a10 :: a11 :: a12 :: w :: r) S) P E = P (a0 :: a1 :: a2 :: a3 :: a4 :: a5 :: a6 :: a7 :: a8 :: a9 :: a10 :: a11 :: a12 :: some v :: r) S := by
  rw [assignE, if_pos (by simp only [List.length_cons]; omega)]; rfl
theorem Iq_mem {S : Store} {p : Nat} {xs : List PV} {i : Int} {Q : PV → Prop} (h : S[p]? = some (.lst xs)) (h0 : 0 ≤ i) (h1 : i < xs.length) (hQ : ∀ x ∈ xs, Q x) : Iq (.ref p) (.int i) S Q := by
  obtain ⟨x, hx, hm⟩ := at_get h0 h1
  rw [Iq_L h, hx, Gq_s]
  exact hQ x hm
theorem Iq_memT {S : Store} {xs : List PV} {i : Int} {Q : PV → Prop} (h0 : 0 ≤ i) (h1 : i < xs.length) (hQ : ∀ x ∈ xs, Q x) : Iq (.tup xs) (.int i) S Q := by
  obtain ⟨x, hx, hm⟩ := at_get h0 h1
  rw [Iq_T, hx, Gq_s]
  exact hQ x hm
theorem Iq_memS {S : Store} {xs : Sy} {i : Int} {Q : PV → Prop} (hz : xs.length ≤ nsz) (h0 : 0 ≤ i) (h1 : i < xs.length) (hQ : ∀ x ∈ xs, Q (.str [x])) : Iq (.str xs) (.int i) S Q := by
  obtain ⟨x, hx, hm⟩ := at_get h0 h1
  rw [Iq_S hz, hx, Option.map_some, Gq_s]
  exact hQ x hm
theorem Ev.fresh {S S1 S2 : Store} {s : Nat} {o : MO} (a : Ev s S S1) (b : Ev s (S1 ++ [o]) S2) : S2[S1.length]? = some o := b.at' _ _ (by have := a.st.lt; omega) at_push
end L3
/-! L3Gen: generators' loops. -/
namespace L3
theorem lc_gen {cx : Cxi} {vs : List Nat} {i s : Nat} {elt : CE} {ρ : Env} {S : Store} {P : PV → Store → Prop} {E : Exn → Store → Prop} (good : Store → PV → Prop) (mono : ∀ {S S' v}, Ev s S S' → good S v → good S' v) (hs : Strm S s) (k : Nat) (hi : i < (wipe ρ vs).length) (hk : k < cx.T.F) (hz : k < nsz)
    (hb : ∀ (j : Nat) S', j < k → Ev s S S' → Wq (evalE cx elt ((wipe ρ vs).set i (some (.int (j : Nat)))) S') (fun y S2 => Ev s S' S2 ∧ good S2 y) NoX)
    (hP : ∀ S' xs, Ev s S S' → xs.length = k → (∀ x ∈ xs, good S' x) → P (.ref S'.length) (S' ++ [.lst xs])) : Lcw cx vs (.name i) (.con (.bl true)) elt (.rng 0 k) ρ S P E := by
  refine Lcw_I k (fun j acc S' => Ev s S S' ∧ acc.length = j ∧ ∀ x ∈ acc, good S' x) ⟨Ev.refl hs, rfl, by simp⟩ hk hz ?_
  rintro j acc S' ⟨e, hl, hg⟩ hj ha
  refine ⟨fun hlt => ⟨.int (j : Nat), by simp [ItV.next, hlt], ?_⟩, fun he => ⟨by simp [ItV.next, he], ?_⟩⟩
  · rw [assignE, if_pos hi, Wq_ok]
    refine (hb j S' hlt e).imp fun y S2 q => ⟨e.trans q.1, by simp [hl], ?_⟩
    intro x hx
    rcases List.mem_append.mp hx with h | h
    · exact mono q.1 (hg x h)
    · rw [List.mem_singleton.mp h]
      exact q.2
  · exact hP S' acc e (by omega) hg
theorem okv.mono' {s : Nat} {S S' : Store} {v : PV} (e : Ev s S S') (h : okv s S v) : okv s S' v := h.ev e
end L3
/-! L3Look: steps that look at an object, by what stands at its place. -/
namespace L3
variable {cx : Cxi} {ρ : Env} {S : Store} {P : PV → Store → Prop} {E : Exn → Store → Prop} {K : Fl → Store → Prop} {EX : Exn → Env → Store → Prop} {p q : Nat} {Q : PV → Prop} {Qb : Bool → Prop} {QS : Store → Prop} {T : Tab}
theorem app_0 {S L : Store} : (S ++ L)[S.length]? = L[0]? := by rw [List.getElem?_append_right (Nat.le_refl _), Nat.sub_self]
theorem app_k {S L : Store} {k : Nat} : (S ++ L)[S.length + k]? = L[k]? := by rw [List.getElem?_append_right (Nat.le_add_right _ _), Nat.add_sub_cancel_left]
theorem sapp_0 {S L : Store} {o : MO} : (S ++ L).set S.length o = S ++ L.set 0 o := by rw [List.set_append, if_neg (Nat.lt_irrefl _), Nat.sub_self]
theorem sapp_k {S L : Store} {k : Nat} {o : MO} : (S ++ L).set (S.length + k) o = S ++ L.set k o := by rw [List.set_append, if_neg (by omega), Nat.add_sub_cancel_left]
theorem app_old {S : Store} {o : MO} (h : S[p]? = some o) (L : Store) : (S ++ L)[p]? = some o := by
  rw [List.getElem?_append_left (List.getElem?_eq_some_iff.mp h).1]; exact h
theorem sapp_old {S : Store} {o : MO} (h : S[p]? = some o) (L : Store) (o' : MO) : (S ++ L).set p o' = S.set p o' ++ L := by
  rw [List.set_append, if_pos (List.getElem?_eq_some_iff.mp h).1]
theorem len_app {S : Store} {a : MO} {L : Store} : (S ++ (a :: L)).length = S.length + (L.length + 1) := by simp
theorem set_at {S : Store} {o o' : MO} (h : S[p]? = some o) : (S.set p o')[p]? = some o' := List.getElem?_set_self (List.getElem?_eq_some_iff.mp h).1
theorem set_ne {S : Store} {o o' : MO} (h : S[q]? = some o) (hn : p ≠ q) : (S.set p o')[q]? = some o := by rw [List.getElem?_set_ne hn]; exact h
/-! ### places, fields -/
def Sq (x y v : PV) (S : Store) (Q : Store → Prop) : Prop := ∃ S', setIx x y v S = some S' ∧ Q S'
def Zq (T : Tab) (x : PV) (f : Sy) (v : PV) (S : Store) (Q : Store → Prop) : Prop := ∃ S', setFld T x f v S = some S' ∧ Q S'
def ixO (o : Option MO) (k : PV) (Q : PV → Prop) : Prop := match o with
    | some (.lst xs) => (match k with | .int i => Gq (atI xs i) Q | _ => False)
    | some (.dic t kvs) => isKey t k = true ∧ Gq (dget kvs k) Q
    | some (.fdc kvs) => isKey false k = true ∧ Gq (dget kvs k) Q
    | _ => False
theorem k_ix {k : PV} : Iq (.ref p) k S Q = ixO S[p]? k Q := by
  simp only [Iq, getIx, Gq, ixO]
  cases h : S[p]? with
  | none => simp
  | some o =>
    cases o with
    | lst xs => cases k <;> simp
    | dic t kvs =>
      simp only []
      split
      · rename_i h2; simp [h2]
      · rename_i h2; simp [h2]
    | ins c fs => simp
    | fdc kvs => simp only []; split; (rename_i h2; simp [h2]); (rename_i h2; simp [h2])
theorem ixO_L {xs : List PV} {i : Int} : ixO (some (.lst xs)) (.int i) Q = Gq (atI xs i) Q := (rfl)
theorem ixO_D {t : Bool} {kvs : List (PV × PV)} {k : PV} : ixO (some (.dic t kvs)) k Q = (isKey t k = true ∧ Gq (dget kvs k) Q) := (rfl)
theorem ixO_F {kvs : List (PV × PV)} {k : PV} : ixO (some (.fdc kvs)) k Q = (isKey false k = true ∧ Gq (dget kvs k) Q) := (rfl)
theorem u_intB {b : Bool} : Wq (bfun .int [.bl b] S) P E = P (.int (if b then 1 else 0)) S := (rfl)
theorem o_muli {i j : Int} : Wq (bop .mul (.int i) (.int j) S) P E = (((-W64 < i ∧ i < W64) ∨ (-W64 < j ∧ j < W64)) ∧ P (.int (i * j)) S) := by simp only [bop, Wq_ite, Wq_ok, Wq_stuck]; simp
theorem o_modi {i j : Int} : Wq (bop .mod (.int i) (.int j) S) P E = (0 < j ∧ P (.int (i % j)) S) := by simp only [bop, Wq_ite, Wq_ok, Wq_stuck]; simp
theorem o_fdivi {i j : Int} : Wq (bop .fdiv (.int i) (.int j) S) P E = ((0 < j ∧ j < 1073741824) ∧ P (.int (i / j)) S) := by simp only [bop, Wq_ite, Wq_ok, Wq_stuck]; simp
/-- one of the items -/
theorem Gq_mem {xs : List PV} {i : Nat} (h1 : i < xs.length) (hP : ∀ x ∈ xs, Q x) : Gq (atI xs (i : Nat)) Q := by
  rw [at_nat (by omega) (by omega)]
  exact ⟨xs[i], by simp [h1], hP _ (List.getElem_mem _)⟩
theorem y_asub {o i e : CE} : Ws (execS cx (.asg (.sub o i) e) ρ S) K EX = Wq (evalE cx e ρ S) (fun v S => Wq (evalE cx o ρ S) (fun x S => Wq (evalE cx i ρ S) (fun y S => Sq x y v S fun S' => K (.nx ρ) S') NoX) NoX) (fun x S => EX x ρ S) := W_asub
theorem k_sx {k v : PV} : Sq (.ref p) k v S QS = match S[p]? with
    | some (.lst xs) => (match k with | .int i => ∃ j, ixN xs.length i = some j ∧ QS (S.set p (.lst (xs.set j v))) | _ => False)
    | some (.dic t kvs) => (isKey t k = true ∧ kvs.length < nsz) ∧ QS (S.set p (.dic t (dput kvs k v)))
    | _ => False := by
  simp only [Sq, setIx]
  cases h : S[p]? with
  | none => simp
  | some o =>
    cases o with
    | lst xs =>
      cases k with
      | int i =>
        simp only [Option.map_eq_some_iff, eq_iff_iff]
        constructor
        · rintro ⟨S', ⟨a, h1, rfl⟩, h2⟩
          exact ⟨a, h1, h2⟩
        · rintro ⟨a, h1, h2⟩
          exact ⟨_, ⟨a, h1, rfl⟩, h2⟩
      | _ => simp
    | dic t kvs =>
      simp only [Bool.and_eq_true, decide_eq_true_eq]
      split
      · rename_i h2; simp [h2]
      · rename_i h2; simp [h2]
    | ins c fs => simp
    | fdc kvs => simp
theorem y_afld {o e : CE} {f : Sy} : Ws (execS cx (.asg (.fld o f) e) ρ S) K EX = Wq (evalE cx e ρ S) (fun v S => Wq (evalE cx o ρ S) (fun x S => Zq cx.T x f v S fun S' => K (.nx ρ) S') NoX) (fun x S => EX x ρ S) := by
  simp only [W_asg, assignE, Wq_bind, Wq_ofO, Wq_ok, Zq]
def zqO (T : Tab) (o : Option MO) (f : Sy) (v : PV) (p : Nat) (S : Store) (Q : Store → Prop) : Prop := match o with
    | some (.ins c fs) => (isAttr T c f = true ∧ fs.length < 1000) ∧ Q (S.set p (.ins c (putF f v fs)))
    | _ => False
theorem k_sf {f : Sy} {v : PV} : Zq T (.ref p) f v S QS = zqO T S[p]? f v p S QS := by
  simp only [Zq, setFld, zqO]
  cases h : S[p]? with
  | none => simp
  | some o =>
    cases o with
    | lst xs => simp
    | dic t kvs => simp
    | ins c fs =>
      simp only [Bool.and_eq_true, decide_eq_true_eq]
      split
      · rename_i h2; simp [h2]
      · rename_i h2; simp [h2]
    | fdc kvs => simp
theorem zqO_I {c : Nat} {fs : List (Sy × PV)} {f : Sy} {v : PV} : zqO T (some (.ins c fs)) f v p S QS = ((isAttr T c f = true ∧ fs.length < 1000) ∧ QS (S.set p (.ins c (putF f v fs)))) := (rfl)
theorem y_atup {ts : CTs} {e : CE} : Ws (execS cx (.asg (.tup ts) e) ρ S) K EX = Wq (evalE cx e ρ S) (fun v S => Wq (assignE cx (.tup ts) v ρ S) (fun ρ' S => K (.nx ρ') S) NoX) (fun x S => EX x ρ S) := W_asg
theorem t_tup {ts : CTs} {xs : List PV} {P : Env → Store → Prop} : Wq (assignE cx (.tup ts) (.tup xs) ρ S) P E = Wq (assignEs cx ts xs ρ S) P E := by simp only [assignE]
theorem ts_nil {P : Env → Store → Prop} : Wq (assignEs cx .nil [] ρ S) P E = P ρ S := by simp only [assignEs, Wq_ok]
theorem ts_cons {t : CT} {ts : CTs} {x : PV} {xs : List PV} {P : Env → Store → Prop} : Wq (assignEs cx (.cons t ts) (x :: xs) ρ S) P E = Wq (assignE cx t x ρ S) (fun ρ S => Wq (assignEs cx ts xs ρ S) P E) E := by simp only [assignEs, Wq_bind]
def fqO (T : Tab) (o : Option MO) (f : Sy) (Q : PV → Prop) : Prop := match o with
    | some (.ins c fs) => isAttr T c f = true ∧ Gq (lookF f fs) Q
    | _ => False
theorem k_fld {f : Sy} : Gq (getFld T (.ref p) f S) Q = fqO T S[p]? f Q := by
  simp only [Gq, getFld, fqO]
  cases h : S[p]? with
  | none => simp
  | some o =>
    cases o with
    | lst xs => simp
    | dic t kvs => simp
    | ins c fs =>
      simp only []
      split
      · rename_i h2; simp [h2]
      · rename_i h2; simp [h2]
    | fdc kvs => simp
theorem fqO_I {c : Nat} {fs : List (Sy × PV)} {f : Sy} : fqO T (some (.ins c fs)) f Q = (isAttr T c f = true ∧ Gq (lookF f fs) Q) := (rfl)
/-! ### truth, in, len -/
theorem k_tr : Tq (.ref p) S Qb = match S[p]? with
    | some (.lst xs) => Qb (!xs.isEmpty)
    | _ => False := by
  simp only [Tq, truthy]
  cases h : S[p]? with
  | none => simp
  | some o =>
    cases o with
    | lst xs => cases xs <;> simp
    | dic t kvs => simp
    | ins c fs => simp
    | fdc kvs => simp
theorem k_ty {t : Ty} : Yq (.ref p) t S Qb = match S[p]? with
    | some (.lst _) => Qb (match t with | .list => true | _ => false)
    | _ => False := by
  simp only [Yq, isTy]
  cases h : S[p]? with
  | none => simp
  | some o => cases o <;> cases t <;> simp
/-- x in a list -/
def inL (x : PV) (ys : List PV) (Qb : Bool → Prop) : Prop := match x with
  | .tup xs => ∃ k, deepIn (.tup xs) ys = some k ∧ Qb k
  | x => (flat x && ys.all flat) = true ∧ Qb (ys.any fun y => eqF y x)
theorem inL_t {xs ys : List PV} : inL (.tup xs) ys Qb = ∃ k, deepIn (.tup xs) ys = some k ∧ Qb k := (rfl)
theorem inL_i {i : Int} {ys : List PV} : inL (.int i) ys Qb = ((flat (.int i) && ys.all flat) = true ∧ Qb (ys.any fun y => eqF y (.int i))) := (rfl)
theorem inL_s {i : Sy} {ys : List PV} : inL (.str i) ys Qb = ((flat (.str i) && ys.all flat) = true ∧ Qb (ys.any fun y => eqF y (.str i))) := (rfl)
theorem inL_b {i : Bool} {ys : List PV} : inL (.bl i) ys Qb = ((flat (.bl i) && ys.all flat) = true ∧ Qb (ys.any fun y => eqF y (.bl i))) := (rfl)
theorem inL_n {ys : List PV} : inL .non ys Qb = ((flat .non && ys.all flat) = true ∧ Qb (ys.any fun y => eqF y .non)) := (rfl)
theorem k_in {x : PV} : Cq .inn x (.ref p) S Qb = match S[p]? with
    | some (.lst ys) => inL x ys Qb
    | some (.dic t kvs) => isKey t x = true ∧ Qb (dget kvs x).isSome
    | _ => False := by
  have e : cop .inn x (.ref p) S = match S[p]? with
    | some (.lst ys) => if flat x && ys.all flat then some (ys.any fun y => eqF y x) else deepInL x ys
    | some (.dic t kvs) => if isKey t x then some (dget kvs x).isSome else none
    | _ => none := by
    simp only [cop]
    unfold isin
    split <;> first
      | (rename_i h; cases h; done)
      | (rename_i e; cases e; rfl)
      | (exfalso; simp_all; done)
      | simp_all
  simp only [Cq]
  rw [e]
  cases h : S[p]? with
  | none => simp
  | some o =>
    cases o with
    | lst xs =>
      simp only []
      cases x with
      | tup zs => simp [flat, deepInL, inL]
      | _ =>
        simp only [inL, deepInL]
        split
        · rename_i h2; simp [h2]
        · rename_i h2; simp [h2]
    | dic t kvs =>
      simp only []
      split
      · rename_i h2; simp [h2]
      · rename_i h2; simp [h2]
    | ins c fs => simp
    | fdc kvs => simp
theorem k_nin {x : PV} : Cq .nin x (.ref p) S Qb = Cq .inn x (.ref p) S fun k => Qb (!k) := by
  simp only [Cq]
  simp only [cop]
  cases isin S x (.ref p) with
  | none => simp
  | some b => cases b <;> simp
theorem k_intF {x : PV} {ys : List PV} (hx : flat x = true) : Cq .inn x (.tup ys) S Qb = ((flat x && ys.all flat) = true ∧ Qb (ys.any fun y => eqF y x)) := by
  have e : cop .inn x (.tup ys) S = if flat x && ys.all flat then some (ys.any fun y => eqF y x) else none := by
    simp only [cop]
    unfold isin
    split <;> simp_all
    cases hx
  simp only [Cq]
  rw [e]
  split
  · rename_i h2; simp [h2]
  · rename_i h2; simp [h2]
theorem k_int_i {i : Int} {ys : List PV} : Cq .inn (.int i) (.tup ys) S Qb = ((flat (.int i) && ys.all flat) = true ∧ Qb (ys.any fun y => eqF y (.int i))) := k_intF rfl
theorem k_int_s {i : Sy} {ys : List PV} : Cq .inn (.str i) (.tup ys) S Qb = ((flat (.str i) && ys.all flat) = true ∧ Qb (ys.any fun y => eqF y (.str i))) := k_intF rfl
theorem k_int_b {i : Bool} {ys : List PV} : Cq .inn (.bl i) (.tup ys) S Qb = ((flat (.bl i) && ys.all flat) = true ∧ Qb (ys.any fun y => eqF y (.bl i))) := k_intF rfl
theorem k_int_n {ys : List PV} : Cq .inn .non (.tup ys) S Qb = ((flat .non && ys.all flat) = true ∧ Qb (ys.any fun y => eqF y .non)) := k_intF rfl
theorem k_nint {x : PV} {ys : List PV} : Cq .nin x (.tup ys) S Qb = Cq .inn x (.tup ys) S fun k => Qb (!k) := by
  simp only [Cq]
  simp only [cop]
  cases isin S x (.tup ys) with
  | none => simp
  | some b => cases b <;> simp
theorem k_inr {x : PV} {ys : List PV} : Cq .inn x (.rot ys) S Qb = ((flat x && ys.all flat) = true ∧ Qb (ys.any fun y => eqF y x)) := by
  have e : cop .inn x (.rot ys) S = if flat x && ys.all flat then some (ys.any fun y => eqF y x) else none := by
    simp only [cop]
    unfold isin
    split <;> simp_all
  simp only [Cq]
  rw [e]
  split
  · rename_i h2; simp [h2]
  · rename_i h2; simp [h2]
theorem k_ninr {x : PV} {ys : List PV} : Cq .nin x (.rot ys) S Qb = Cq .inn x (.rot ys) S fun k => Qb (!k) := by
  simp only [Cq]
  simp only [cop]
  cases isin S x (.rot ys) with
  | none => simp
  | some b => cases b <;> simp
theorem k_len : Wq (bfun .len [.ref p] S) P E = match S[p]? with
    | some (.lst xs) => P (.int xs.length) S
    | some (.dic _ kvs) => P (.int kvs.length) S
    | _ => False := by
  simp only [bfun]
  cases h : S[p]? with
  | none => simp [Wq]
  | some o => cases o <;> simp [Wq]
theorem k_tuple : Wq (bfun .tuple [.ref p] S) P E = match S[p]? with
    | some (.lst xs) => P (.tup xs) S
    | _ => False := by
  simp only [bfun]
  cases h : S[p]? with
  | none => simp [Wq]
  | some o => cases o <;> simp [Wq]
theorem k_list : Wq (bfun .list [.ref p] S) P E = match S[p]? with
    | some (.lst xs) => P (.ref S.length) (S ++ [.lst xs])
    | _ => False := by
  simp only [bfun]
  cases h : S[p]? with
  | none => simp [Wq]
  | some o => cases o <;> simp [Wq]
theorem k_sorted : Wq (bfun .sorted [.ref p] S) P E = match S[p]? with
    | some (.lst xs) => (match intsOf xs with | some ns => P (.ref S.length) (S ++ [.lst ((sortI ns).map .int)]) | none => False)
    | _ => False := by
  simp only [bfun]
  cases h : S[p]? with
  | none => simp [Wq]
  | some o =>
    cases o with
    | lst xs => simp only []; cases intsOf xs <;> simp [Wq]
    | dic t kvs => simp [Wq]
    | ins c fs => simp [Wq]
    | fdc kvs => simp [Wq]
theorem k_min : Wq (bfun .min [.ref p] S) P E = match S[p]? with
    | some (.lst xs) => (match intsOf xs with | some (i :: r) => P (.int (minI i r)) S | _ => False)
    | _ => False := by
  simp only [bfun]
  cases h : S[p]? with
  | none => simp [Wq]
  | some o =>
    cases o with
    | lst xs =>
      simp only []
      cases intsOf xs with
      | none => simp [Wq]
      | some ns => cases ns <;> simp [Wq]
    | dic t kvs => simp [Wq]
    | ins c fs => simp [Wq]
    | fdc kvs => simp [Wq]
theorem k_q : ∀ {PI : ItV → Store → Prop}, Wq (seqIt (.ref p) S) PI E = match S[p]? with
    | some (.lst _) => PI (.ref p) S
    | _ => False := by
  intro PI
  simp only [seqIt]
  cases h : S[p]? with
  | none => simp [Wq]
  | some o => cases o <;> simp [Wq]
theorem k_lens : Gq (lenSet S (.ref p)) Q = match S[p]? with
    | some (.lst xs) => (match intsOf xs with | some ns => ns.length ≤ 4000 ∧ Q (.int (dedupI ns).length) | none => False)
    | _ => False := by
  simp only [Gq, lenSet]
  cases h : S[p]? with
  | none => simp
  | some o =>
    cases o with
    | lst xs =>
      simp only []
      cases intsOf xs with
      | none => simp
      | some ns =>
        simp only []
        split
        · rename_i h2; simp [h2]
        · rename_i h2; simp [h2]
    | dic t kvs => simp
    | ins c fs => simp
    | fdc kvs => simp
theorem k_add {a b : Nat} : Wq (bop .add (.ref a) (.ref b) S) P E = match S[a]?, S[b]? with
    | some (.lst x), some (.lst y) => x.length + y.length ≤ nsz ∧ P (.ref S.length) (S ++ [.lst (x ++ y)])
    | _, _ => False := by
  simp only [bop]
  cases h1 : S[a]? with
  | none => simp [Wq]
  | some o =>
    cases o with
    | lst x =>
      cases h2 : S[b]? with
      | none => simp [Wq]
      | some o2 =>
        cases o2 with
        | lst y =>
          simp only [Wq_ite, Wq_ok, Wq_stuck]
          split
          · rename_i h; simp [h]
          · rename_i h; simp [h]
        | dic t kvs => simp [Wq]
        | ins c fs => simp [Wq]
        | fdc kvs => simp [Wq]
    | dic t kvs => simp [Wq]
    | ins c fs => simp [Wq]
    | fdc kvs => simp [Wq]
theorem k_mul {i : Int} : Wq (bop .mul (.ref p) (.int i) S) P E = match S[p]? with
    | some (.lst x) => (-(2 ^ 63) ≤ i ∧ i < 2 ^ 63 ∧ x.length * i.toNat ≤ nsz) ∧ P (.ref S.length) (S ++ [.lst (List.replicate i.toNat x).flatten])
    | _ => False := by
  simp only [bop]
  cases h : S[p]? with
  | none => simp [Wq]
  | some o =>
    cases o with
    | lst xs =>
      simp only [Wq_ite, Wq_ok, Wq_stuck]
      split
      · rename_i h2; simp only [h2, true_and]
      · rename_i h2; simp only [h2, false_and]
    | dic t kvs => simp [Wq]
    | ins c fs => simp [Wq]
    | fdc kvs => simp [Wq]
theorem k_slc {l h : Option Int} : Wq (getSl (.ref p) l h S) P E = match S[p]? with
    | some (.lst xs) => P (.ref S.length) (S ++ [.lst (cutL xs l h)])
    | _ => False := by
  simp only [getSl]
  cases h : S[p]? with
  | none => simp [Wq]
  | some o => cases o <;> simp [Wq]
/-! ### methods -/
def mqO (T : Tab) (o : Option MO) (m : Sy) (p : Nat) (QM : MT → Prop) : Prop := match o with
    | some (.lst _) => (match lmOf m with | some lm => QM (.lst lm p) | none => False)
    | some (.ins c fs) => (lookF m fs).isNone = true ∧ (match methOf T c m with | some f => QM (.fn f p) | none => False)
    | _ => False
theorem k_mth {m : Sy} {QM : MT → Prop} : Mq T (.ref p) m S QM = mqO T S[p]? m p QM := by
  simp only [Mq, mtOf, mqO]
  cases h : S[p]? with
  | none => simp
  | some o =>
    cases o with
    | lst xs => simp only []; cases lmOf m <;> simp
    | dic t kvs => simp
    | ins c fs =>
      simp only []
      split
      · rename_i h2; simp only [h2, true_and]; cases methOf T c m <;> simp
      · rename_i h2; simp [h2]
    | fdc kvs => simp
theorem mqO_L {m : Sy} {QM : MT → Prop} {xs : List PV} : mqO T (some (.lst xs)) m p QM = (match lmOf m with | some lm => QM (.lst lm p) | none => False) := (rfl)
theorem mqO_I {m : Sy} {QM : MT → Prop} {c : Nat} {fs : List (Sy × PV)} : mqO T (some (.ins c fs)) m p QM = ((lookF m fs).isNone = true ∧ (match methOf T c m with | some f => QM (.fn f p) | none => False)) := (rfl)
theorem lm_app : lmOf [97, 112, 112, 101, 110, 100] = some .append := (rfl)
theorem lm_ext : lmOf [101, 120, 116, 101, 110, 100] = some .extend := (rfl)
theorem lm_pop : lmOf [112, 111, 112] = some .pop := (rfl)
theorem k_app {y : PV} : Wq (runM cx [y] S (.lst .append p)) P E = match S[p]? with
    | some (.lst ys) => ys.length < nsz ∧ P .non (S.set p (.lst (ys ++ [y])))
    | _ => False := by
  simp only [runM, lmeth]
  cases h : S[p]? with
  | none => simp [Wq]
  | some o =>
    cases o with
    | lst xs =>
      simp only [Wq_ite, Wq_ok, Wq_stuck]
      split
      · rename_i h2; simp [h2]
      · rename_i h2; simp [h2]
    | dic t kvs => simp [Wq]
    | ins c fs => simp [Wq]
    | fdc kvs => simp [Wq]
theorem k_extT {zs : List PV} : Wq (runM cx [.tup zs] S (.lst .extend p)) P E = match S[p]? with
    | some (.lst ys) => ys.length + zs.length ≤ nsz ∧ P .non (S.set p (.lst (ys ++ zs)))
    | _ => False := by
  simp only [runM, lmeth]
  cases h : S[p]? with
  | none => simp [Wq]
  | some o =>
    cases o with
    | lst xs =>
      simp only [Wq_ite, Wq_ok, Wq_stuck]
      split
      · rename_i h2; simp [h2]
      · rename_i h2; simp [h2]
    | dic t kvs => simp [Wq]
    | ins c fs => simp [Wq]
    | fdc kvs => simp [Wq]
theorem k_extL {a : Nat} : Wq (runM cx [.ref a] S (.lst .extend p)) P E = match S[p]?, S[a]? with
    | some (.lst ys), some (.lst zs) => ys.length + zs.length ≤ nsz ∧ P .non (S.set p (.lst (ys ++ zs)))
    | _, _ => False := by
  simp only [runM, lmeth]
  cases h1 : S[p]? with
  | none => simp [Wq]
  | some o =>
    cases o with
    | lst x =>
      cases h2 : S[a]? with
      | none => simp [Wq]
      | some o2 =>
        cases o2 with
        | lst y =>
          simp only [Wq_ite, Wq_ok, Wq_stuck]
          split
          · rename_i h; simp [h]
          · rename_i h; simp [h]
        | dic t kvs => simp [Wq]
        | ins c fs => simp [Wq]
        | fdc kvs => simp [Wq]
    | dic t kvs => simp [Wq]
    | ins c fs => simp [Wq]
    | fdc kvs => simp [Wq]
theorem k_pop : Wq (runM cx [] S (.lst .pop p)) P E = match S[p]? with
    | some (.lst ys) => (match ys[ys.length - 1]? with | some y => P y (S.set p (.lst ys.dropLast)) | none => False)
    | _ => False := by
  simp only [runM, lmeth]
  cases h : S[p]? with
  | none => simp [Wq]
  | some o =>
    cases o with
    | lst xs => simp only []; cases xs[xs.length - 1]? <;> simp [Wq]
    | dic t kvs => simp [Wq]
    | ins c fs => simp [Wq]
    | fdc kvs => simp [Wq]
theorem k_mk {c f : Nat} {xs : List PV} (hf : cx.T.inits.lookup c = some f) : Wq (makeC cx c xs S) P E = Wq (cx.init f (.ref S.length :: xs) (S ++ [.ins c []])) (fun v S' => v = .non ∧ P (.ref S.length) S') E := by
  simp only [makeC]
  rw [hf]
  simp only [Wq_bind]
  congr 1
  funext v S'
  cases v <;> simp [Wq]
/-- callF, closed to the unifier -/
@[irreducible] def callG (T : Tab) (n : Nat) : CallT := callF T n
theorem cG {T : Tab} {n : Nat} : (callP T n).2 = callG T n := by unfold callG; rfl
theorem Wq_callG {T : Tab} {n f : Nat} {fn : Fn} {args : List PV} {S : Store} {P : PV → Store → Prop} {E : Exn → Store → Prop} (hf : T.fns[f]? = some fn) (hl : args.length = fn.np)
    (h : Ws (execB (cxF T n) fn.body (startEnv fn args) S) (retK P) (fun x _ S => E x S)) : Wq (callG T (n + 1) f args S) P E := by
  rw [← cG]
  exact Wq_call hf hl h
theorem e_mkF {n c : Nat} {es : CEs} {T : Tab} : Wq (evalE (cxF T (n + 1)) (.mk c es) ρ S) P E = Wq (evalEs (cxF T (n + 1)) es ρ S) (fun xs S => Wq (makeC (cxF T (n + 1)) c xs S) P E) E := e_mk rfl
theorem k_mkF {n c f : Nat} {xs : List PV} {T : Tab} (hf : T.inits.lookup c = some f) : Wq (makeC (cxF T (n + 1)) c xs S) P E = Wq (callG T n f (.ref S.length :: xs) (S ++ [.ins c []])) (fun v S' => v = .non ∧ P (.ref S.length) S') E := by
  rw [← cG]
  exact k_mk (cx := cxF T (n + 1)) hf
/-! ### dicts -/
def Dq (S : Store) (x : PV) (Q : Prop) : Prop := isDic S x = some () ∧ Q
theorem e_dget1 {o a : CE} : Wq (evalE cx (.dget1 o a) ρ S) P E = Wq (evalE cx o ρ S) (fun x S => Dq S x (Wq (evalE cx a ρ S) (fun y S => Gq (dGetV S x y .non) fun v => P v S) E)) E := by
  simp only [evalE, Wq_bind, Wq_ofO, Dq, Gq]; congr 1; funext x S; exact propext ⟨fun ⟨u, h, q⟩ => ⟨h, q⟩, fun ⟨h, q⟩ => ⟨(), h, q⟩⟩
theorem e_dget2 {o a b : CE} : Wq (evalE cx (.dget2 o a b) ρ S) P E = Wq (evalE cx o ρ S) (fun x S => Dq S x (Wq (evalE cx a ρ S) (fun y S => Wq (evalE cx b ρ S) (fun z S => Gq (dGetV S x y z) fun v => P v S) E) E)) E := by
  simp only [evalE, Wq_bind, Wq_ofO, Dq, Gq]; congr 1; funext x S; exact propext ⟨fun ⟨u, h, q⟩ => ⟨h, q⟩, fun ⟨h, q⟩ => ⟨(), h, q⟩⟩
theorem e_dset {o a b : CE} : Wq (evalE cx (.dset o a b) ρ S) P E = Wq (evalE cx o ρ S) (fun x S => Dq S x (Wq (evalE cx a ρ S) (fun y S => Wq (evalE cx b ρ S) (fun z S => Wq (dSetV S x y z) P E) E) E)) E := by
  simp only [evalE, Wq_bind, Wq_ofO, Dq]; congr 1; funext x S; exact propext ⟨fun ⟨u, h, q⟩ => ⟨h, q⟩, fun ⟨h, q⟩ => ⟨(), h, q⟩⟩
theorem k_isd {R : Prop} : Dq S (.ref p) R = match S[p]? with
    | some (.dic _ _) => R
    | _ => False := by
  simp only [Dq, isDic]
  cases h : S[p]? with
  | none => simp
  | some o => cases o <;> simp
theorem k_dget {y z : PV} : Gq (dGetV S (.ref p) y z) Q = match S[p]? with
    | some (.dic t kvs) => isKey t y = true ∧ Q ((dget kvs y).getD z)
    | _ => False := by
  simp only [Gq, dGetV]
  cases h : S[p]? with
  | none => simp
  | some o =>
    cases o with
    | lst xs => simp
    | dic t kvs =>
      simp only []
      split
      · rename_i h2; simp [h2]
      · rename_i h2; simp [h2]
    | ins c fs => simp
    | fdc kvs => simp
theorem k_dset {y z : PV} : Wq (dSetV S (.ref p) y z) P E = match S[p]? with
    | some (.dic t kvs) => (isKey t y = true ∧ kvs.length < nsz) ∧ (match dget kvs y with | some v => P v S | none => P z (S.set p (.dic t (dput kvs y z))))
    | _ => False := by
  simp only [dSetV]
  cases h : S[p]? with
  | none => simp [Wq]
  | some o =>
    cases o with
    | lst xs => simp [Wq]
    | dic t kvs =>
      simp only [Bool.and_eq_true, decide_eq_true_eq]
      split
      · rename_i h2
        simp only [h2, true_and]
        cases dget kvs y <;> simp [Wq]
      · rename_i h2; simp [h2, Wq]
    | ins c fs => simp [Wq]
    | fdc kvs => simp [Wq]
theorem e_lzip {a b : CE} : Wq (evalE cx (.lzip a b) ρ S) P E = Wq (evalE cx a ρ S) (fun x S => Wq (evalE cx b ρ S) (fun y S => Wq (lzipV x y S) P E) E) E := by simp only [evalE, Wq_bind]
theorem k_lzip {a b : List PV} : Wq (lzipV (.tup a) (.tup b) S) P E = (a.length = b.length ∧ P (.ref S.length) (S ++ [.lst (zipP a b)])) := by
  simp only [lzipV, Wq_ite, Wq_ok, Wq_stuck]; simp
/-- x[::-1] -/
def Rq (x : PV) (S : Store) (P : PV → Store → Prop) : Prop := match x with
  | .ref p => (match S[p]? with | some (.lst xs) => P (.ref S.length) (S ++ [.lst xs.reverse]) | _ => False)
  | .tup xs => P (.tup xs.reverse) S
  | _ => False
theorem e_rev {a : CE} : Wq (evalE cx (.rev a) ρ S) P E = Wq (evalE cx a ρ S) (fun x S => Rq x S P) E := by
  simp only [evalE, Wq_bind]
  congr 1
  funext x S
  cases x <;> simp only [Rq, Wq_stuck, Wq_ok]
  rename_i p
  cases h : S[p]? with
  | none => simp [Wq]
  | some o => cases o <;> simp [Wq]
theorem k_revT {xs : List PV} : Rq (.tup xs) S P = P (.tup xs.reverse) S := (rfl)
theorem k_revL : Rq (.ref p) S P = match S[p]? with | some (.lst xs) => P (.ref S.length) (S ++ [.lst xs.reverse]) | _ => False := (rfl)
theorem y_augs {o i e : CE} {op : BOp} : Ws (execS cx (.augs o i op e) ρ S) K EX = Wq (evalE cx o ρ S) (fun x S => Wq (evalE cx i ρ S) (fun y S => Gq (getLi x y S) fun v => Wq (evalE cx e ρ S) (fun z S => Gq (augI op v z) fun w => Sq x y w S fun S' => K (.nx ρ) S') (fun x S => EX x ρ S)) (fun x S => EX x ρ S)) (fun x S => EX x ρ S) := by
  simp only [execS, Ws_at, Wq_ofO, Ws_ok, Gq, Sq]
/-! ### try -/
/-- what an exception meets at the clause -/
def Xq (cx : Cxi) (c : Nat) (x : Option Nat) (h : HSs) (e : Exn) (ρ : Env) (S : Store) (K : Fl → Store → Prop) (EX : Exn → Env → Store → Prop) : Prop := match subO cx.T e c with
  | some true => inX x ρ = true ∧ Ws (execH cx h e x (clr x ρ) S) K EX
  | some false => EX e ρ S
  | none => False
theorem y_try {b : CSs} {c : Nat} {x : Option Nat} {h : HSs} : Ws (execS cx (.try b c x h) ρ S) K EX = Ws (execB cx b ρ S) K (fun e ρ S => Xq cx c x h e ρ S K EX) := by
  simp only [execS]
  cases execB cx b ρ S with
  | ok fl S1 => rfl
  | stuck => rfl
  | exc e ρ1 S1 =>
    show Ws (match subO cx.T e c with
      | some true => if inX x ρ1 then execH cx h e x (clr x ρ1) S1 else .stuck
      | some false => .exc e ρ1 S1
      | none => .stuck) K EX = Xq cx c x h e ρ1 S1 K EX
    unfold Xq
    cases subO cx.T e c with
    | none => rfl
    | some b =>
      cases b with
      | true =>
        simp only []
        by_cases hin : inX x ρ1 = true
        · rw [if_pos hin]; simp [hin]
        · rw [if_neg hin]; simp [hin, Ws]
      | false => rfl
theorem y_rai {c : Nat} : Ws (execS cx (.rai c) ρ S) K EX = EX ⟨c, []⟩ ρ S := (rfl)
theorem h_nil {e : Exn} {x : Option Nat} : Ws (execH cx .nil e x ρ S) K EX = K (.nx ρ) S := (rfl)
theorem h_ret {v : CE} {r : HSs} {e : Exn} {x : Option Nat} : Ws (execH cx (.cons none v r) e x ρ S) K EX = Wq (evalE cx v ρ S) (fun w S => K (.rt w) S) NoX := by
  simp only [execH, Ws_at, Wq_nox, Ws_ok]
theorem h_isi {d : Nat} {v : CE} {r : HSs} {e : Exn} {x : Option Nat} : Ws (execH cx (.cons (some d) v r) e x ρ S) K EX = match subO cx.T e d with
    | some true => Wq (evalE cx v ρ S) (fun w S => K (.rt w) S) NoX
    | some false => Ws (execH cx r e x ρ S) K EX
    | none => False := by
  simp only [execH]
  cases subO cx.T e d with
  | none => rfl
  | some b => cases b <;> simp only [Ws_at, Wq_nox, Ws_ok]
/-! ### walks -/
def Nq (x : PV) (S : Store) (P : ItV → Store → Prop) : Prop := match x with
  | .tup xs => P (.enT xs) S
  | .rot xs => P (.enT xs) S
  | .ref p => (match S[p]? with | some (.lst _) => P (.enL p) S | _ => False)
  | _ => False
theorem i_enum {e : CE} {P : ItV → Store → Prop} : Wq (iterE cx (.enum e) ρ S) P E = Wq (evalE cx e ρ S) (fun x S => Nq x S P) E := by
  simp only [iterE, Wq_bind]
  congr 1
  funext x S
  cases x <;> simp only [Nq, Wq_stuck, Wq_ok]
  rename_i p
  cases h : S[p]? with
  | none => simp [Wq]
  | some o => cases o <;> simp [Wq]
theorem k_enT {xs : List PV} {P : ItV → Store → Prop} : Nq (.tup xs) S P = P (.enT xs) S := (rfl)
theorem k_enL {P : ItV → Store → Prop} : Nq (.ref p) S P = match S[p]? with | some (.lst _) => P (.enL p) S | _ => False := (rfl)
theorem Grow.set {S S' : Store} {o : MO} (g : Grow S S') (h : S.length ≤ p) : Grow S (S'.set p o) := by
  obtain ⟨Z, rfl⟩ := g
  exact ⟨Z.set (p - S.length) o, by rw [List.set_append, if_neg (by omega)]⟩
theorem Grow.len {S S' : Store} (g : Grow S S') : S.length ≤ S'.length := by
  obtain ⟨Z, rfl⟩ := g
  simp
theorem Grow.push' {S S' Z : Store} (g : Grow S S') : Grow S (S' ++ Z) := g.trans (Grow.push _ _)
theorem lt_at {S : Store} {o : MO} (h : S[p]? = some o) : p < S.length := (List.getElem?_eq_some_iff.mp h).1
theorem nx_ref {xs : List PV} {i : Nat} (h : S[p]? = some (.lst xs)) : (ItV.ref p).next i S = some xs[i]? := by simp only [ItV.next, h]
theorem nx_enT {xs : List PV} {i : Nat} : (ItV.enT xs).next i S = some (xs[i]?.map fun x => .tup [.int (i : Nat), x]) := (rfl)
theorem nx_enL {xs : List PV} {i : Nat} (h : S[p]? = some (.lst xs)) : (ItV.enL p).next i S = some (xs[i]?.map fun x => .tup [.int (i : Nat), x]) := by simp only [ItV.next, h]
/-- a for loop: xs the items -/
theorem Lp_X {cx : Cxi} {t : CT} {b : CSs} {J : ItV} {ρ : Env} {S : Store} {K : Fl → Store → Prop} {E : Exn → Env → Store → Prop} (xs : List PV) (I : Nat → Env → Store → Prop) (h0 : I 0 ρ S) (hF : xs.length < cx.T.F) (hJ : ∀ i ρ S, I i ρ S → J.next i S = some xs[i]?)
    (hb : ∀ (i : Nat) (hi : i < xs.length) (ρ : Env) (S : Store), I i ρ S → Wq (assignE cx t xs[i] ρ S) (fun ρ1 S1 => Ws (execB cx b ρ1 S1) (fun fl S2 => match fl with
      | .nx ρ2 => I (i + 1) ρ2 S2
      | .ct ρ2 => I (i + 1) ρ2 S2
      | .bk ρ2 => K (.nx ρ2) S2
      | .rt v => K (.rt v) S2) E) NoX) (hK : ∀ ρ S, I xs.length ρ S → K (.nx ρ) S) : Lp cx t b J ρ S K E := by
  refine Lp_I xs.length I h0 hF fun i ρ S hI hi => ⟨fun hlt => ⟨xs[i], by rw [hJ i ρ S hI]; simp [hlt], hb i hlt ρ S hI⟩, fun he => ⟨by rw [hJ i ρ S hI]; simp [he], ?_⟩⟩
  subst he
  exact hK ρ S hI
/-- what a body has to come to -/
theorem fl_nx {I : Env → Store → Prop} {K : Fl → Store → Prop} {ρ : Env} : (match (Fl.nx ρ : Fl) with
      | .nx ρ2 => I ρ2 S
      | .ct ρ2 => I ρ2 S
      | .bk ρ2 => K (.nx ρ2) S
      | .rt v => K (.rt v) S) = I ρ S := rfl
/-- a comprehension over typed items -/
theorem lc_ty {α : Type} {cx : Cxi} {vs : List Nat} {k : Nat} {elt : CE} {ρ : Env} {S : Store} {P : PV → Store → Prop} {E : Exn → Store → Prop} (ys : List α) (v f : α → PV) (J : ItV) (hJ : ∀ i S', Grow S S' → J.next i S' = some (ys.map v)[i]?) (hi : k < (wipe ρ vs).length) (hF : ys.length < cx.T.F) (hz : ys.length < nsz)
    (hb : ∀ a ∈ ys, ∀ S', Grow S S' → Wq (evalE cx elt ((wipe ρ vs).set k (some (v a))) S') (fun y S2 => Grow S' S2 ∧ y = f a) NoX)
    (hP : ∀ S', Grow S S' → P (.ref S'.length) (S' ++ [.lst (ys.map f)])) : Lcw cx vs (.name k) (.con (.bl true)) elt J ρ S P E := by
  refine Lcw_I ys.length (fun i acc S' => Grow S S' ∧ acc = (ys.take i).map f) ⟨Grow.refl _, by simp⟩ hF hz ?_
  rintro i acc S' ⟨g, rfl⟩ hi2 ha
  refine ⟨fun hlt => ⟨v ys[i], by rw [hJ i S' g]; simp [hlt], ?_⟩, fun he => ⟨by rw [hJ i S' g]; simp [he], ?_⟩⟩
  · rw [assignE, if_pos hi, Wq_ok]
    refine (hb ys[i] (List.getElem_mem _) S' g).imp fun y S2 q => ⟨g.trans q.1, ?_⟩
    rw [q.2, List.take_add_one, List.map_append]
    simp [hlt]
  · have := hP S' g
    rw [he, List.take_length]
    exact this
/-- .. with a test -/
theorem lc_if {α : Type} {cx : Cxi} {vs : List Nat} {k : Nat} {cond elt : CE} {ρ : Env} {S : Store} {P : PV → Store → Prop} {E : Exn → Store → Prop} (ys : List α) (v : α → PV) (c : α → Bool) (f : α → PV) (J : ItV) (hJ : ∀ i S', Grow S S' → J.next i S' = some (ys.map v)[i]?) (hi : k < (wipe ρ vs).length) (hF : ys.length < cx.T.F) (hz : ys.length < nsz)
    (hb : ∀ a ∈ ys, ∀ S', Grow S S' → Tt cx cond ((wipe ρ vs).set k (some (v a))) S' (fun b S1 => b = c a ∧ Grow S' S1 ∧ (c a = true → Wq (evalE cx elt ((wipe ρ vs).set k (some (v a))) S1) (fun y S2 => Grow S1 S2 ∧ y = f a) NoX)) NoX)
    (hP : ∀ S', Grow S S' → P (.ref S'.length) (S' ++ [.lst ((ys.filter c).map f)])) : Lcw cx vs (.name k) cond elt J ρ S P E := by
  refine W_lcI (fun i acc S' => Grow S S' ∧ acc = ((ys.take i).filter c).map f) ⟨Grow.refl _, by simp⟩ hF hz ?_
  rintro i acc S' ⟨g, rfl⟩ hi2 ha
  refine ⟨fun hlt => ⟨v ys[i], by rw [hJ i S' g]; simp [hlt], ?_⟩, fun he => ⟨by rw [hJ i S' g]; simp [he], ?_⟩⟩
  · rw [Wq_bind, assignE, if_pos hi, Wq_ok]
    have h1 := hb ys[i] (List.getElem_mem _) S' g
    unfold Tt Tq at h1
    rw [Wq_bind]
    refine h1.imp fun x S1 q => ?_
    obtain ⟨b, hb1, rfl, g1, h2⟩ := q
    rw [Wq_bind, Wq_ofO]
    refine ⟨_, hb1, ?_⟩
    have et : ys.take (i + 1) = ys.take i ++ [ys[i]] := List.take_succ_eq_append_getElem hlt
    cases hc : c ys[i] with
    | true =>
      rw [if_pos rfl, Wq_bind]
      refine (h2 hc).imp fun y S2 q => ?_
      rw [Wq_ok]
      refine ⟨g.trans (g1.trans q.1), ?_⟩
      rw [q.2, et, List.filter_append, List.map_append]
      simp [hc]
    | false =>
      rw [if_neg (by simp), Wq_ok]
      refine ⟨g.trans g1, ?_⟩
      rw [et, List.filter_append, List.map_append]
      simp [hc]
  · have := hP S' g
    rw [he, List.take_length]
    exact this
/-- a while loop, its measure carried by the invariant -/
theorem W_whN {cx : Cxi} {c : CE} {b : CSs} {ρ : Env} {S : Store} {K : Fl → Store → Prop} {E : Exn → Env → Store → Prop} (I : Nat → Env → Store → Prop) (m0 : Nat) (h0 : I m0 ρ S) (hμ : m0 < cx.T.F)
    (hs : ∀ m ρ S, I m ρ S → Tt cx c ρ S (fun k S' => Br k (Ws (execB cx b ρ S') (fun fl S2 => match fl with
      | .nx ρ2 => ∃ m', m' < m ∧ I m' ρ2 S2
      | .ct ρ2 => ∃ m', m' < m ∧ I m' ρ2 S2
      | .bk ρ2 => K (.nx ρ2) S2
      | .rt v => K (.rt v) S2) E) (K (.nx ρ) S') .mk .mk) (fun x S => E x ρ S)) : Ws (execS cx (.whl c b) ρ S) K E := by
  simp only [execS]
  have key : ∀ F m ρ S, m < F → I m ρ S → Ws (whLoop (testE cx c) (execB cx b) F ρ S) K E := by
    intro F
    induction F with
    | zero => intro m ρ S h; omega
    | succ F ih =>
      intro m ρ S hF hI
      simp only [whLoop, Ws_at, W_test]
      refine (hs m ρ S hI).mono (fun x S1 ⟨k, hk, q⟩ => ⟨k, hk, ?_⟩) fun _ _ z => z
      cases k with
      | false => exact q
      | true =>
        simp only [if_true, Ws_bind]
        refine Ws.mono (show Ws (execB cx b ρ S1) _ E from q) fun fl S2 q2 => ?_
        cases fl with
        | nx ρ2 =>
          obtain ⟨m', hm, q3⟩ := q2
          exact ih m' ρ2 S2 (by omega) q3
        | ct ρ2 =>
          obtain ⟨m', hm, q3⟩ := q2
          exact ih m' ρ2 S2 (by omega) q3
        | bk ρ2 => exact q2
        | rt v => exact q2
  exact key _ m0 ρ S hμ h0
theorem v_14 {a0 a1 a2 a3 a4 a5 a6 a7 a8 a9 a10 a11 a12 a13 : Option PV} {v : PV} {r : Env} {P : PV → Store → Prop} : Wq (evalE cx (.var 14) (a0 :: a1 :: a2 :: a3 :: a4 :: a5 :: a6 :: a7 :: a8 :: a9 :: a10 :: a11 :: a12 :: a13 :: some v :: r) S) P E = P v S := (rfl)
theorem n_14 {a0 a1 a2 a3 a4 a5 a6 a7 a8 a9 a10 a11 a12 a13 : Option PV} {w : Option PV} {r : Env} {e : CE} : Ws (execS cx (.asg (.name 14) e) (a0 :: a1 :: a2 :: a3 :: a4 :: a5 :: a6 :: a7 :: a8 :: a9 :: a10 :: a11 :: a12 :: a13 :: w :: r) S) K EX = Wq (evalE cx e (a0 :: a1 :: a2 :: a3 :: a4 :: a5 :: a6 :: a7 :: a8 :: a9 :: a10 :: a11 :: a12 :: a13 :: w :: r) S) (fun v S => K (.nx (a0 :: a1 :: a2 :: a3 :: a4 :: a5 :: a6 :: a7 :: a8 :: a9 :: a10 :: a11 :: a12 :: a13 :: some v :: r)) S) (fun x S => EX x (a0 :: a1 :: a2 :: a3 :: a4 :: a5 :: a6 :: a7 :: a8 :: a9 :: a10 :: a11 :: a12 :: a13 :: w :: r) S) := by
  rw [W_asgn]; congr 1; funext v S; simp [List.set]
theorem g_14 {a0 a1 a2 a3 a4 a5 a6 a7 a8 a9 a10 a11 a12 a13 : Option PV} {v : PV} {r : Env} {P : PV → Store → Prop} : Wq (getV (a0 :: a1 :: a2 :: a3 :: a4 :: a5 :: a6 :: a7 :: a8 :: a9 :: a10 :: a11 :: a12 :: a13 :: some v :: r) 14 S) P E = P v S := (rfl)
theorem t_14 {a0 a1 a2 a3 a4 a5 a6 a7 a8 a9 a10 a11 a12 a13 : Option PV} {w : Option PV} {v : PV} {r : Env} {P : Env → Store → Prop} : Wq (assignE cx (.name 14) v (a0 :: a1 :: a2 :: a3 :: a4 :: a5 :: a6 :: a7 :: a8 :: a9 :: a10 :: a11 :: a12 :: a13 :: w :: r) S) P E = P (a0 :: a1 :: a2 :: a3 :: a4 :: a5 :: a6 :: a7 :: a8 :: a9 :: a10 :: a11 :: a12 :: a13 :: some v :: r) S := by
  rw [assignE, if_pos (by simp only [List.length_cons]; omega)]; rfl
theorem v_15 {a0 a1 a2 a3 a4 a5 a6 a7 a8 a9 a10 a11 a12 a13 a14 : Option PV} {v : PV} {r : Env} {P : PV → Store → Prop} : Wq (evalE cx (.var 15) (a0 :: a1 :: a2 :: a3 :: a4 :: a5 :: a6 :: a7 :: a8 :: a9 :: a10 :: a11 :: a12 :: a13 :: a14 :: some v :: r) S) P E = P v S := (rfl)
theorem n_15 {a0 a1 a2 a3 a4 a5 a6 a7 a8 a9 a10 a11 a12 a13 a14 : Option PV} {w : Option PV} {r : Env} {e : CE} : Ws (execS cx (.asg (.name 15) e) (a0 :: a1 :: a2 :: a3 :: a4 :: a5 :: a6 :: a7 :: a8 :: a9 :: a10 :: a11 :: a12 :: a13 :: a14 :: w :: r) S) K EX = Wq (evalE cx e (a0 :: a1 :: a2 :: a3 :: a4 :: a5 :: a6 :: a7 :: a8 :: a9 :: a10 :: a11 :: a12 :: a13 :: a14 :: w :: r) S) (fun v S => K (.nx (a0 :: a1 :: a2 :: a3 :: a4 :: a5 :: a6 :: a7 :: a8 :: a9 :: a10 :: a11 :: a12 :: a13 :: a14 :: some v :: r)) S) (fun x S => EX x (a0 :: a1 :: a2 :: a3 :: a4 :: a5 :: a6 :: a7 :: a8 :: a9 :: a10 :: a11 :: a12 :: a13 :: a14 :: w :: r) S) := by
  rw [W_asgn]; congr 1; funext v S; simp [List.set]
theorem g_15 {a0 a1 a2 a3 a4 a5 a6 a7 a8 a9 a10 a11 a12 a13 a14 : Option PV} {v : PV} {r : Env} {P : PV → Store → Prop} : Wq (getV (a0 :: a1 :: a2 :: a3 :: a4 :: a5 :: a6 :: a7 :: a8 :: a9 :: a10 :: a11 :: a12 :: a13 :: a14 :: some v :: r) 15 S) P E = P v S := (rfl)
theorem t_15 {a0 a1 a2 a3 a4 a5 a6 a7 a8 a9 a10 a11 a12 a13 a14 : Option PV} {w : Option PV} {v : PV} {r : Env} {P : Env → Store → Prop} : Wq (assignE cx (.name 15) v (a0 :: a1 :: a2 :: a3 :: a4 :: a5 :: a6 :: a7 :: a8 :: a9 :: a10 :: a11 :: a12 :: a13 :: a14 :: w :: r) S) P E = P (a0 :: a1 :: a2 :: a3 :: a4 :: a5 :: a6 :: a7 :: a8 :: a9 :: a10 :: a11 :: a12 :: a13 :: a14 :: some v :: r) S := by
  rw [assignE, if_pos (by simp only [List.length_cons]; omega)]; rfl
theorem v_16 {a0 a1 a2 a3 a4 a5 a6 a7 a8 a9 a10 a11 a12 a13 a14 a15 : Option PV} {v : PV} {r : Env} {P : PV → Store → Prop} : Wq (evalE cx (.var 16) (a0 :: a1 :: a2 :: a3 :: a4 :: a5 :: a6 :: a7 :: a8 :: a9 :: a10 :: a11 :: a12 :: a13 :: a14 :: a15 :: some v :: r) S) P E = P v S := (rfl)
theorem n_16 {a0 a1 a2 a3 a4 a5 a6 a7 a8 a9 a10 a11 a12 a13 a14 a15 : Option PV} {w : Option PV} {r : Env} {e : CE} : Ws (execS cx (.asg (.name 16) e) (a0 :: a1 :: a2 :: a3 :: a4 :: a5 :: a6 :: a7 :: a8 :: a9 :: a10 :: a11 :: a12 :: a13 :: a14 :: a15 :: w :: r) S) K EX = Wq (evalE cx e (a0 :: a1 :: a2 :: a3 :: a4 :: a5 :: a6 :: a7 :: a8 :: a9 :: a10 :: a11 :: a12 :: a13 :: a14 :: a15 :: w :: r) S) (fun v S => K (.nx (a0 :: a1 :: a2 :: a3 :: a4 :: a5 :: a6 :: a7 :: a8 :: a9 :: a10 :: a11 :: a12 :: a13 :: a14 :: a15 :: some v :: r)) S) (fun x S => EX x (a0 :: a1 :: a2 :: a3 :: a4 :: a5 :: a6 :: a7 :: a8 :: a9 :: a10 :: a11 :: a12 :: a13 :: a14 :: a15 :: w :: r) S) := by
  rw [W_asgn]; congr 1; funext v S; simp [List.set]
theorem g_16 {a0 a1 a2 a3 a4 a5 a6 a7 a8 a9 a10 a11 a12 a13 a14 a15 : Option PV} {v : PV} {r : Env} {P : PV → Store → Prop} : Wq (getV (a0 :: a1 :: a2 :: a3 :: a4 :: a5 :: a6 :: a7 :: a8 :: a9 :: a10 :: a11 :: a12 :: a13 :: a14 :: a15 :: some v :: r) 16 S) P E = P v S := (rfl)
theorem t_16 {a0 a1 a2 a3 a4 a5 a6 a7 a8 a9 a10 a11 a12 a13 a14 a15 : Option PV} {w : Option PV} {v : PV} {r : Env} {P : Env → Store → Prop} : Wq (assignE cx (.name 16) v (a0 :: a1 :: a2 :: a3 :: a4 :: a5 :: a6 :: a7 :: a8 :: a9 :: a10 :: a11 :: a12 :: a13 :: a14 :: a15 :: w :: r) S) P E = P (a0 :: a1 :: a2 :: a3 :: a4 :: a5 :: a6 :: a7 :: a8 :: a9 :: a10 :: a11 :: a12 :: a13 :: a14 :: a15 :: some v :: r) S := by
  rw [assignE, if_pos (by simp only [List.length_cons]; omega)]; rfl
theorem v_17 {a0 a1 a2 a3 a4 a5 a6 a7 a8 a9 a10 a11 a12 a13 a14 a15 a16 : Option PV} {v : PV} {r : Env} {P : PV → Store → Prop} : Wq (evalE cx (.var 17) (a0 :: a1 :: a2 :: a3 :: a4 :: a5 :: a6 :: a7 :: a8 :: a9 :: a10 :: a11 :: a12 :: a13 :: a14 :: a15 :: a16 :: some v :: r) S) P E = P v S := (rfl)
theorem n_17 {a0 a1 a2 a3 a4 a5 a6 a7 a8 a9 a10 a11 a12 a13 a14 a15 a16 : Option PV} {w : Option PV} {r : Env} {e : CE} : Ws (execS cx (.asg (.name 17) e) (a0 :: a1 :: a2 :: a3 :: a4 :: a5 :: a6 :: a7 :: a8 :: a9 :: a10 :: a11 :: a12 :: a13 :: a14 :: a15 :: a16 :: w :: r) S) K EX = Wq (evalE cx e (a0 :: a1 :: a2 :: a3 :: a4 :: a5 :: a6 :: a7 :: a8 :: a9 :: a10 :: a11 :: a12 :: a13 :: a14 :: a15 :: a16 :: w :: r) S) (fun v S => K (.nx (a0 :: a1 :: a2 :: a3 :: a4 :: a5 :: a6 :: a7 :: a8 :: a9 :: a10 :: a11 :: a12 :: a13 :: a14 :: a15 :: a16 :: some v :: r)) S) (fun x S => EX x (a0 :: a1 :: a2 :: a3 :: a4 :: a5 :: a6 :: a7 :: a8 :: a9 :: a10 :: a11 :: a12 :: a13 :: a14 :: a15 :: a16 :: w :: r) S) := by
  rw [W_asgn]; congr 1; funext v S; simp [List.set]
theorem g_17 {a0 a1 a2 a3 a4 a5 a6 a7 a8 a9 a10 a11 a12 a13 a14 a15 a16 : Option PV} {v : PV} {r : Env} {P : PV → Store → Prop} : Wq (getV (a0 :: a1 :: a2 :: a3 :: a4 :: a5 :: a6 :: a7 :: a8 :: a9 :: a10 :: a11 :: a12 :: a13 :: a14 :: a15 :: a16 :: some v :: r) 17 S) P E = P v S := (rfl)
theorem t_17 {a0 a1 a2 a3 a4 a5 a6 a7 a8 a9 a10 a11 a12 a13 a14 a15 a16 : Option PV} {w : Option PV} {v : PV} {r : Env} {P : Env → Store → Prop} : Wq (assignE cx (.name 17) v (a0 :: a1 :: a2 :: a3 :: a4 :: a5 :: a6 :: a7 :: a8 :: a9 :: a10 :: a11 :: a12 :: a13 :: a14 :: a15 :: a16 :: w :: r) S) P E = P (a0 :: a1 :: a2 :: a3 :: a4 :: a5 :: a6 :: a7 :: a8 :: a9 :: a10 :: a11 :: a12 :: a13 :: a14 :: a15 :: a16 :: some v :: r) S := by
  rw [assignE, if_pos (by simp only [List.length_cons]; omega)]; rfl
theorem v_18 {a0 a1 a2 a3 a4 a5 a6 a7 a8 a9 a10 a11 a12 a13 a14 a15 a16 a17 : Option PV} {v : PV} {r : Env} {P : PV → Store → Prop} : Wq (evalE cx (.var 18) (a0 :: a1 :: a2 :: a3 :: a4 :: a5 :: a6 :: a7 :: a8 :: a9 :: a10 :: a11 :: a12 :: a13 :: a14 :: a15 :: a16 :: a17 :: some v :: r) S) P E = P v S := (rfl)
theorem n_18 {a0 a1 a2 a3 a4 a5 a6 a7 a8 a9 a10 a11 a12 a13 a14 a15 a16 a17 : Option PV} {w : Option PV} {r : Env} {e : CE} : Ws (execS cx (.asg (.name 18) e) (a0 :: a1 :: a2 :: a3 :: a4 :: a5 :: a6 :: a7 :: a8 :: a9 :: a10 :: a11 :: a12 :: a13 :: a14 :: a15 :: a16 :: a17 :: w :: r) S) K EX = Wq (evalE cx e (a0 :: a1 :: a2 :: a3 :: a4 :: a5 :: a6 :: a7 :: a8 :: a9 :: a10 :: a11 :: a12 :: a13 :: a14 :: a15 :: a16 :: a17 :: w :: r) S) (fun v S => K (.nx (a0 :: a1 :: a2 :: a3 :: a4 :: a5 :: a6 :: a7 :: a8 :: a9 :: a10 :: a11 :: a12 :: a13 :: a14 :: a15 :: a16 :: a17 :: some v :: r)) S) (fun x S => EX x (a0 :: a1 :: a2 :: a3 :: a4 :: a5 :: a6 :: a7 :: a8 :: a9 :: a10 :: a11 :: a12 :: a13 :: a14 :: a15 :: a16 :: a17 :: w :: r) S) := by
  rw [W_asgn]; congr 1; funext v S; simp [List.set]
theorem g_18 {a0 a1 a2 a3 a4 a5 a6 a7 a8 a9 a10 a11 a12 a13 a14 a15 a16 a17 : Option PV} {v : PV} {r : Env} {P : PV → Store → Prop} : Wq (getV (a0 :: a1 :: a2 :: a3 :: a4 :: a5 :: a6 :: a7 :: a8 :: a9 :: a10 :: a11 :: a12 :: a13 :: a14 :: a15 :: a16 :: a17 :: some v :: r) 18 S) P E = P v S := (rfl)
theorem t_18 {a0 a1 a2 a3 a4 a5 a6 a7 a8 a9 a10 a11 a12 a13 a14 a15 a16 a17 : Option PV} {w : Option PV} {v : PV} {r : Env} {P : Env → Store → Prop} : Wq (assignE cx (.name 18) v (a0 :: a1 :: a2 :: a3 :: a4 :: a5 :: a6 :: a7 :: a8 :: a9 :: a10 :: a11 :: a12 :: a13 :: a14 :: a15 :: a16 :: a17 :: w :: r) S) P E = P (a0 :: a1 :: a2 :: a3 :: a4 :: a5 :: a6 :: a7 :: a8 :: a9 :: a10 :: a11 :: a12 :: a13 :: a14 :: a15 :: a16 :: a17 :: some v :: r) S := by
  rw [assignE, if_pos (by simp only [List.length_cons]; omega)]; rfl
theorem v_19 {a0 a1 a2 a3 a4 a5 a6 a7 a8 a9 a10 a11 a12 a13 a14 a15 a16 a17 a18 : Option PV} {v : PV} {r : Env} {P : PV → Store → Prop} : Wq (evalE cx (.var 19) (a0 :: a1 :: a2 :: a3 :: a4 :: a5 :: a6 :: a7 :: a8 :: a9 :: a10 :: a11 :: a12 :: a13 :: a14 :: a15 :: a16 :: a17 :: a18 :: some v :: r) S) P E = P v S := (rfl)
theorem n_19 {a0 a1 a2 a3 a4 a5 a6 a7 a8 a9 a10 a11 a12 a13 a14 a15 a16 a17 a18 : Option PV} {w : Option PV} {r : Env} {e : CE} : Ws (execS cx (.asg (.name 19) e) (a0 :: a1 :: a2 :: a3 :: a4 :: a5 :: a6 :: a7 :: a8 :: a9 :: a10 :: a11 :: a12 :: a13 :: a14 :: a15 :: a16 :: a17 :: a18 :: w :: r) S) K EX = Wq (evalE cx e (a0 :: a1 :: a2 :: a3 :: a4 :: a5 :: a6 :: a7 :: a8 :: a9 :: a10 :: a11 :: a12 :: a13 :: a14 :: a15 :: a16 :: a17 :: a18 :: w :: r) S) (fun v S => K (.nx (a0 :: a1 :: a2 :: a3 :: a4 :: a5 :: a6 :: a7 :: a8 :: a9 :: a10 :: a11 :: a12 :: a13 :: a14 :: a15 :: a16 :: a17 :: a18 :: some v :: r)) S) (fun x S => EX x (a0 :: a1 :: a2 :: a3 :: a4 :: a5 :: a6 :: a7 :: a8 :: a9 :: a10 :: a11 :: a12 :: a13 :: a14 :: a15 :: a16 :: a17 :: a18 :: w :: r) S) := by
  rw [W_asgn]; congr 1; funext v S; simp [List.set]
theorem g_19 {a0 a1 a2 a3 a4 a5 a6 a7 a8 a9 a10 a11 a12 a13 a14 a15 a16 a17 a18 : Option PV} {v : PV} {r : Env} {P : PV → Store → Prop} : Wq (getV (a0 :: a1 :: a2 :: a3 :: a4 :: a5 :: a6 :: a7 :: a8 :: a9 :: a10 :: a11 :: a12 :: a13 :: a14 :: a15 :: a16 :: a17 :: a18 :: some v :: r) 19 S) P E = P v S := (rfl)
theorem t_19 {a0 a1 a2 a3 a4 a5 a6 a7 a8 a9 a10 a11 a12 a13 a14 a15 a16 a17 a18 : Option PV} {w : Option PV} {v : PV} {r : Env} {P : Env → Store → Prop} : Wq (assignE cx (.name 19) v (a0 :: a1 :: a2 :: a3 :: a4 :: a5 :: a6 :: a7 :: a8 :: a9 :: a10 :: a11 :: a12 :: a13 :: a14 :: a15 :: a16 :: a17 :: a18 :: w :: r) S) P E = P (a0 :: a1 :: a2 :: a3 :: a4 :: a5 :: a6 :: a7 :: a8 :: a9 :: a10 :: a11 :: a12 :: a13 :: a14 :: a15 :: a16 :: a17 :: a18 :: some v :: r) S := by
  rw [assignE, if_pos (by simp only [List.length_cons]; omega)]; rfl
theorem v_20 {a0 a1 a2 a3 a4 a5 a6 a7 a8 a9 a10 a11 a12 a13 a14 a15 a16 a17 a18 a19 : Option PV} {v : PV} {r : Env} {P : PV → Store → Prop} : Wq (evalE cx (.var 20) (a0 :: a1 :: a2 :: a3 :: a4 :: a5 :: a6 :: a7 :: a8 :: a9 :: a10 :: a11 :: a12 :: a13 :: a14 :: a15 :: a16 :: a17 :: a18 :: a19 :: some v :: r) S) P E = P v S := (rfl)
theorem n_20 {a0 a1 a2 a3 a4 a5 a6 a7 a8 a9 a10 a11 a12 a13 a14 a15 a16 a17 a18 a19 : Option PV} {w : Option PV} {r : Env} {e : CE} : Ws (execS cx (.asg (.name 20) e) (a0 :: a1 :: a2 :: a3 :: a4 :: a5 :: a6 :: a7 :: a8 :: a9 :: a10 :: a11 :: a12 :: a13 :: a14 :: a15 :: a16 :: a17 :: a18 :: a19 :: w :: r) S) K EX = Wq (evalE cx e (a0 :: a1 :: a2 :: a3 :: a4 :: a5 :: a6 :: a7 :: a8 :: a9 :: a10 :: a11 :: a12 :: a13 :: a14 :: a15 :: a16 :: a17 :: a18 :: a19 :: w :: r) S) (fun v S => K (.nx (a0 :: a1 :: a2 :: a3 :: a4 :: a5 :: a6 :: a7 :: a8 :: a9 :: a10 :: a11 :: a12 :: a13 :: a14 :: a15 :: a16 :: a17 :: a18 :: a19 :: some v :: r)) S) (fun x S => EX x (a0 :: a1 :: a2 :: a3 :: a4 :: a5 :: a6 :: a7 :: a8 :: a9 :: a10 :: a11 :: a12 :: a13 :: a14 :: a15 :: a16 :: a17 :: a18 :: a19 :: w :: r) S) := by
  rw [W_asgn]; congr 1; funext v S; simp [List.set]
theorem g_20 {a0 a1 a2 a3 a4 a5 a6 a7 a8 a9 a10 a11 a12 a13 a14 a15 a16 a17 a18 a19 : Option PV} {v : PV} {r : Env} {P : PV → Store → Prop} : Wq (getV (a0 :: a1 :: a2 :: a3 :: a4 :: a5 :: a6 :: a7 :: a8 :: a9 :: a10 :: a11 :: a12 :: a13 :: a14 :: a15 :: a16 :: a17 :: a18 :: a19 :: some v :: r) 20 S) P E = P v S := (rfl)
theorem t_20 {a0 a1 a2 a3 a4 a5 a6 a7 a8 a9 a10 a11 a12 a13 a14 a15 a16 a17 a18 a19 : Option PV} {w : Option PV} {v : PV} {r : Env} {P : Env → Store → Prop} : Wq (assignE cx (.name 20) v (a0 :: a1 :: a2 :: a3 :: a4 :: a5 :: a6 :: a7 :: a8 :: a9 :: a10 :: a11 :: a12 :: a13 :: a14 :: a15 :: a16 :: a17 :: a18 :: a19 :: w :: r) S) P E = P (a0 :: a1 :: a2 :: a3 :: a4 :: a5 :: a6 :: a7 :: a8 :: a9 :: a10 :: a11 :: a12 :: a13 :: a14 :: a15 :: a16 :: a17 :: a18 :: a19 :: some v :: r) S := by
  rw [assignE, if_pos (by simp only [List.length_cons]; omega)]; rfl
theorem v_21 {a0 a1 a2 a3 a4 a5 a6 a7 a8 a9 a10 a11 a12 a13 a14 a15 a16 a17 a18 a19 a20 : Option PV} {v : PV} {r : Env} {P : PV → Store → Prop} : Wq (evalE cx (.var 21) (a0 :: a1 :: a2 :: a3 :: a4 :: a5 :: a6 :: a7 :: a8 :: a9 :: a10 :: a11 :: a12 :: a13 :: a14 :: a15 :: a16 :: a17 :: a18 :: a19 :: a20 :: some v :: r) S) P E = P v S := (rfl)
theorem n_21 {a0 a1 a2 a3 a4 a5 a6 a7 a8 a9 a10 a11 a12 a13 a14 a15 a16 a17 a18 a19 a20 : Option PV} {w : Option PV} {r : Env} {e : CE} : Ws (execS cx (.asg (.name 21) e) (a0 :: a1 :: a2 :: a3 :: a4 :: a5 :: a6 :: a7 :: a8 :: a9 :: a10 :: a11 :: a12 :: a13 :: a14 :: a15 :: a16 :: a17 :: a18 :: a19 :: a20 :: w :: r) S) K EX = Wq (evalE cx e (a0 :: a1 :: a2 :: a3 :: a4 :: a5 :: a6 :: a7 :: a8 :: a9 :: a10 :: a11 :: a12 :: a13 :: a14 :: a15 :: a16 :: a17 :: a18 :: a19 :: a20 :: w :: r) S) (fun v S => K (.nx (a0 :: a1 :: a2 :: a3 :: a4 :: a5 :: a6 :: a7 :: a8 :: a9 :: a10 :: a11 :: a12 :: a13 :: a14 :: a15 :: a16 :: a17 :: a18 :: a19 :: a20 :: some v :: r)) S) (fun x S => EX x (a0 :: a1 :: a2 :: a3 :: a4 :: a5 :: a6 :: a7 :: a8 :: a9 :: a10 :: a11 :: a12 :: a13 :: a14 :: a15 :: a16 :: a17 :: a18 :: a19 :: a20 :: w :: r) S) := by
  rw [W_asgn]; congr 1; funext v S; simp [List.set]
theorem g_21 {a0 a1 a2 a3 a4 a5 a6 a7 a8 a9 a10 a11 a12 a13 a14 a15 a16 a17 a18 a19 a20 : Option PV} {v : PV} {r : Env} {P : PV → Store → Prop} : Wq (getV (a0 :: a1 :: a2 :: a3 :: a4 :: a5 :: a6 :: a7 :: a8 :: a9 :: a10 :: a11 :: a12 :: a13 :: a14 :: a15 :: a16 :: a17 :: a18 :: a19 :: a20 :: some v :: r) 21 S) P E = P v S := (rfl)
theorem t_21 {a0 a1 a2 a3 a4 a5 a6 a7 a8 a9 a10 a11 a12 a13 a14 a15 a16 a17 a18 a19 a20 : Option PV} {w : Option PV} {v : PV} {r : Env} {P : Env → Store → Prop} : Wq (assignE cx (.name 21) v (a0 :: a1 :: a2 :: a3 :: a4 :: a5 :: a6 :: a7 :: a8 :: a9 :: a10 :: a11 :: a12 :: a13 :: a14 :: a15 :: a16 :: a17 :: a18 :: a19 :: a20 :: w :: r) S) P E = P (a0 :: a1 :: a2 :: a3 :: a4 :: a5 :: a6 :: a7 :: a8 :: a9 :: a10 :: a11 :: a12 :: a13 :: a14 :: a15 :: a16 :: a17 :: a18 :: a19 :: a20 :: some v :: r) S := by
  rw [assignE, if_pos (by simp only [List.length_cons]; omega)]; rfl
theorem v_22 {a0 a1 a2 a3 a4 a5 a6 a7 a8 a9 a10 a11 a12 a13 a14 a15 a16 a17 a18 a19 a20 a21 : Option PV} {v : PV} {r : Env} {P : PV → Store → Prop} : Wq (evalE cx (.var 22) (a0 :: a1 :: a2 :: a3 :: a4 :: a5 :: a6 :: a7 :: a8 :: a9 :: a10 :: a11 :: a12 :: a13 :: a14 :: a15 :: a16 :: a17 :: a18 :: a19 :: a20 :: a21 :: some v :: r) S) P E = P v S := (rfl)
theorem n_22 {a0 a1 a2 a3 a4 a5 a6 a7 a8 a9 a10 a11 a12 a13 a14 a15 a16 a17 a18 a19 a20 a21 : Option PV} {w : Option PV} {r : Env} {e : CE} : Ws (execS cx (.asg (.name 22) e) (a0 :: a1 :: a2 :: a3 :: a4 :: a5 :: a6 :: a7 :: a8 :: a9 :: a10 :: a11 :: a12 :: a13 :: a14 :: a15 :: a16 :: a17 :: a18 :: a19 :: a20 :: a21 :: w :: r) S) K EX = Wq (evalE cx e (a0 :: a1 :: a2 :: a3 :: a4 :: a5 :: a6 :: a7 :: a8 :: a9 :: a10 :: a11 :: a12 :: a13 :: a14 :: a15 :: a16 :: a17 :: a18 :: a19 :: a20 :: a21 :: w :: r) S) (fun v S => K (.nx (a0 :: a1 :: a2 :: a3 :: a4 :: a5 :: a6 :: a7 :: a8 :: a9 :: a10 :: a11 :: a12 :: a13 :: a14 :: a15 :: a16 :: a17 :: a18 :: a19 :: a20 :: a21 :: some v :: r)) S) (fun x S => EX x (a0 :: a1 :: a2 :: a3 :: a4 :: a5 :: a6 :: a7 :: a8 :: a9 :: a10 :: a11 :: a12 :: a13 :: a14 :: a15 :: a16 :: a17 :: a18 :: a19 :: a20 :: a21 :: w :: r) S) := by
  rw [W_asgn]; congr 1; funext v S; simp [List.set]
theorem g_22 {a0 a1 a2 a3 a4 a5 a6 a7 a8 a9 a10 a11 a12 a13 a14 a15 a16 a17 a18 a19 a20 a21 : Option PV} {v : PV} {r : Env} {P : PV → Store → Prop} : Wq (getV (a0 :: a1 :: a2 :: a3 :: a4 :: a5 :: a6 :: a7 :: a8 :: a9 :: a10 :: a11 :: a12 :: a13 :: a14 :: a15 :: a16 :: a17 :: a18 :: a19 :: a20 :: a21 :: some v :: r) 22 S) P E = P v S := (rfl)
theorem t_22 {a0 a1 a2 a3 a4 a5 a6 a7 a8 a9 a10 a11 a12 a13 a14 a15 a16 a17 a18 a19 a20 a21 : Option PV} {w : Option PV} {v : PV} {r : Env} {P : Env → Store → Prop} : Wq (assignE cx (.name 22) v (a0 :: a1 :: a2 :: a3 :: a4 :: a5 :: a6 :: a7 :: a8 :: a9 :: a10 :: a11 :: a12 :: a13 :: a14 :: a15 :: a16 :: a17 :: a18 :: a19 :: a20 :: a21 :: w :: r) S) P E = P (a0 :: a1 :: a2 :: a3 :: a4 :: a5 :: a6 :: a7 :: a8 :: a9 :: a10 :: a11 :: a12 :: a13 :: a14 :: a15 :: a16 :: a17 :: a18 :: a19 :: a20 :: a21 :: some v :: r) S := by
  rw [assignE, if_pos (by simp only [List.length_cons]; omega)]; rfl
theorem v_23 {a0 a1 a2 a3 a4 a5 a6 a7 a8 a9 a10 a11 a12 a13 a14 a15 a16 a17 a18 a19 a20 a21 a22 : Option PV} {v : PV} {r : Env} {P : PV → Store → Prop} : Wq (evalE cx (.var 23) (a0 :: a1 :: a2 :: a3 :: a4 :: a5 :: a6 :: a7 :: a8 :: a9 :: a10 :: a11 :: a12 :: a13 :: a14 :: a15 :: a16 :: a17 :: a18 :: a19 :: a20 :: a21 :: a22 :: some v :: r) S) P E = P v S := (rfl)
theorem n_23 {a0 a1 a2 a3 a4 a5 a6 a7 a8 a9 a10 a11 a12 a13 a14 a15 a16 a17 a18 a19 a20 a21 a22 : Option PV} {w : Option PV} {r : Env} {e : CE} : Ws (execS cx (.asg (.name 23) e) (a0 :: a1 :: a2 :: a3 :: a4 :: a5 :: a6 :: a7 :: a8 :: a9 :: a10 :: a11 :: a12 :: a13 :: a14 :: a15 :: a16 :: a17 :: a18 :: a19 :: a20 :: a21 :: a22 :: w :: r) S) K EX = Wq (evalE cx e (a0 :: a1 :: a2 :: a3 :: a4 :: a5 :: a6 :: a7 :: a8 :: a9 :: a10 :: a11 :: a12 :: a13 :: a14 :: a15 :: a16 :: a17 :: a18 :: a19 :: a20 :: a21 :: a22 :: w :: r) S) (fun v S => K (.nx (a0 :: a1 :: a2 :: a3 :: a4 :: a5 :: a6 :: a7 :: a8 :: a9 :: a10 :: a11 :: a12 :: a13 :: a14 :: a15 :: a16 :: a17 :: a18 :: a19 :: a20 :: a21 :: a22 :: some v :: r)) S) (fun x S => EX x (a0 :: a1 :: a2 :: a3 :: a4 :: a5 :: a6 :: a7 :: a8 :: a9 :: a10 :: a11 :: a12 :: a13 :: a14 :: a15 :: a16 :: a17 :: a18 :: a19 :: a20 :: a21 :: a22 :: w :: r) S) := by
  rw [W_asgn]; congr 1; funext v S; simp [List.set]
theorem g_23 {a0 a1 a2 a3 a4 a5 a6 a7 a8 a9 a10 a11 a12 a13 a14 a15 a16 a17 a18 a19 a20 a21 a22 : Option PV} {v : PV} {r : Env} {P : PV → Store → Prop} : Wq (getV (a0 :: a1 :: a2 :: a3 :: a4 :: a5 :: a6 :: a7 :: a8 :: a9 :: a10 :: a11 :: a12 :: a13 :: a14 :: a15 :: a16 :: a17 :: a18 :: a19 :: a20 :: a21 :: a22 :: some v :: r) 23 S) P E = P v S := (rfl)
theorem t_23 {a0 a1 a2 a3 a4 a5 a6 a7 a8 a9 a10 a11 a12 a13 a14 a15 a16 a17 a18 a19 a20 a21 a22 : Option PV} {w : Option PV} {v : PV} {r : Env} {P : Env → Store → Prop} : Wq (assignE cx (.name 23) v (a0 :: a1 :: a2 :: a3 :: a4 :: a5 :: a6 :: a7 :: a8 :: a9 :: a10 :: a11 :: a12 :: a13 :: a14 :: a15 :: a16 :: a17 :: a18 :: a19 :: a20 :: a21 :: a22 :: w :: r) S) P E = P (a0 :: a1 :: a2 :: a3 :: a4 :: a5 :: a6 :: a7 :: a8 :: a9 :: a10 :: a11 :: a12 :: a13 :: a14 :: a15 :: a16 :: a17 :: a18 :: a19 :: a20 :: a21 :: a22 :: some v :: r) S := by
  rw [assignE, if_pos (by simp only [List.length_cons]; omega)]; rfl
theorem e_ddis {a b : CE} : Wq (evalE cx (.ddis a b) ρ S) P E = Wq (evalE cx a ρ S) (fun x S => Wq (evalE cx b ρ S) (fun y S => isKey false x = true ∧ P (.ref S.length) (S ++ [.dic false [(x, y)]])) E) E := by
  simp only [evalE, Wq_bind, Wq_ite, Wq_ok, Wq_stuck]
  congr 1
  funext x S
  congr 1
  funext y S
  split
  · rename_i h; simp [h]
  · rename_i h; simp [h]
/-- a dict is walked -/
theorem y_lck {k : Nat} {s : CS} {p : Nat} {kvs : List (PV × PV)} (hk : ρ[k]? = some (some (.ref p))) (hp : S[p]? = some (.dic false kvs))
    (h : Ws (execS cx s ρ (S.set p (.fdc kvs))) (fun fl S1 => ∃ kvs1, S1[p]? = some (.fdc kvs1) ∧ K fl (S1.set p (.dic false kvs1))) (fun _ _ _ => False)) : Ws (execS cx (.lck k s) ρ S) K EX := by
  unfold execS
  rw [hk]
  simp only [hp]
  cases hx : execS cx s ρ (S.set p (.fdc kvs)) with
  | ok fl S1 =>
    rw [hx] at h
    obtain ⟨kvs1, h1, h2⟩ := (show ∃ kvs1, S1[p]? = some (.fdc kvs1) ∧ K fl (S1.set p (.dic false kvs1)) from h)
    simp only [h1]
    exact h2
  | exc x ρ1 S1 => rw [hx] at h; exact (show False from h).elim
  | stuck => rw [hx] at h; exact (show False from h).elim
theorem i_kys {k p : Nat} {kvs : List (PV × PV)} {PI : ItV → Store → Prop} (hk : ρ[k]? = some (some (.ref p))) (hp : S[p]? = some (.fdc kvs)) (h : PI (.kys p) S) : Wq (iterE cx (.kys k) ρ S) PI E := by
  simp only [iterE, getV, hk, Wq_bind, Wq_ok, hp]
  exact h
theorem nx_kys {kvs : List (PV × PV)} {i : Nat} (h : S[p]? = some (.fdc kvs)) : (ItV.kys p).next i S = some (kvs.map (·.1))[i]? := by simp only [ItV.next, h, List.getElem?_map]
/-! ### v6: order, zip, reversed, constant dicts, o.f += e -/
theorem o_subb {p q : Bool} : Wq (bop .sub (.bl p) (.bl q) S) P E = P (.int ((if p then 1 else 0) - (if q then 1 else 0))) S := (rfl)
theorem k_ltT {a b : List PV} : Cq .lt (.tup a) (.tup b) S Qb = ∃ k, lexP a b = some k ∧ Qb k := (rfl)
theorem k_gtT {a b : List PV} : Cq .gt (.tup a) (.tup b) S Qb = ∃ k, lexP b a = some k ∧ Qb k := (rfl)
theorem k_ltL {a b : Nat} : Cq .lt (.ref a) (.ref b) S Qb = match S[a]?, S[b]? with
    | some (.lst xs), some (.lst ys) => ∃ k, lexP xs ys = some k ∧ Qb k
    | _, _ => False := by
  simp only [Cq, cop]
  cases h : S[a]? with
  | none => simp
  | some o =>
    cases o with
    | lst xs =>
      cases h2 : S[b]? with
      | none => simp
      | some o2 => cases o2 <;> simp
    | _ => simp
theorem e_ddist {a b : CE} : Wq (evalE cx (.ddist a b) ρ S) P E = Wq (evalE cx a ρ S) (fun x S => Wq (evalE cx b ρ S) (fun y S => isKey true x = true ∧ P (.ref S.length) (S ++ [.dic true [(x, y)]])) E) E := by
  simp only [evalE, Wq_bind, Wq_ite, Wq_ok, Wq_stuck]
  congr 1
  funext x S
  congr 1
  funext y S
  split
  · rename_i h; simp [h]
  · rename_i h; simp [h]
/-- a look-up in a constant dict -/
def Kq (T : Tab) (k : Nat) (x : PV) (Q : PV → Prop) : Prop := match x, T.kds[k]? with
  | .str z, some kvs => Gq (lookF z kvs) Q
  | _, _ => False
theorem e_kdi {k : Nat} {a : CE} : Wq (evalE cx (.kdi k a) ρ S) P E = Wq (evalE cx a ρ S) (fun x S => Kq cx.T k x fun v => P v S) E := by
  simp only [evalE, Wq_bind]
  congr 1
  funext x S
  unfold Kq
  cases x <;> cases cx.T.kds[k]? <;> simp [Wq_stuck, Wq_ofO, Gq]
theorem e_lrng {a b : CE} : Wq (evalE cx (.lrng a b) ρ S) P E = Wq (evalE cx a ρ S) (fun x S => Wq (evalE cx b ρ S) (fun y S => Wq (lrngV x y S) P E) E) E := by simp only [evalE, Wq_bind]
theorem k_lrng {i j : Int} : Wq (lrngV (.int i) (.int j) S) P E = ((-W62 ≤ i ∧ i < W62 ∧ -W62 ≤ j ∧ j < W62 ∧ (j - i).toNat ≤ 4000) ∧ P (.ref S.length) (S ++ [.lst ((List.range (j - i).toNat).map fun (k : Nat) => PV.int (i + (k : Int)))])) := by
  simp only [lrngV, Wq_ite, Wq_ok, Wq_stuck]
  split
  · rename_i h
    exact propext ⟨fun q => ⟨h, q⟩, fun q => q.2⟩
  · rename_i h
    exact propext ⟨fun q => q.elim, fun q => h q.1⟩
/-- an int -/
def Uq (x : PV) (Q : Int → Prop) : Prop := match x with
  | .int j => Q j
  | _ => False
theorem Uq_i {i : Int} {Q : Int → Prop} : Uq (.int i) Q = Q i := (rfl)
theorem e_negU {a : CE} : Wq (evalE cx (.neg a) ρ S) P E = Wq (evalE cx a ρ S) (fun x S => Uq x fun j => P (.int (-j)) S) E := by
  simp only [evalE, Wq_bind]
  congr 1
  funext x S
  unfold Uq
  cases x <;> simp only [Wq_stuck, Wq_ok]
theorem i_zip {a b : CE} {PI : ItV → Store → Prop} : Wq (iterE cx (.zip a b) ρ S) PI E = Wq (evalE cx a ρ S) (fun x S => Wq (evalE cx b ρ S) (fun y S => Wq (zipV x y S) PI E) E) E := by simp only [iterE, Wq_bind]
theorem k_zip {a b : List PV} {PI : ItV → Store → Prop} : Wq (zipV (.tup a) (.tup b) S) PI E = (a.length = b.length ∧ PI (.seq (zipP a b)) S) := by
  simp only [zipV, tupOf, Wq_ite, Wq_ok, Wq_stuck]; simp
theorem i_rvd {e : CE} {PI : ItV → Store → Prop} : Wq (iterE cx (.revd e) ρ S) PI E = Wq (evalE cx e ρ S) (fun x S => Uq x fun j => (-W62 ≤ j ∧ j < W62 ∧ j.toNat ≤ 4000) ∧ PI (.seq ((List.range j.toNat).reverse.map fun (k : Nat) => PV.int (k : Int))) S) E := by
  simp only [iterE, Wq_bind]
  congr 1
  funext x S
  unfold Uq
  cases x <;> simp only [Wq_stuck, Wq_ite, Wq_ok]
  split
  · rename_i h
    exact propext ⟨fun q => ⟨h, q⟩, fun q => q.2⟩
  · rename_i h
    exact propext ⟨fun q => q.elim, fun q => h q.1⟩
theorem t_tupL {ts : CTs} {PQ : Env → Store → Prop} : Wq (assignE cx (.tup ts) (.ref p) ρ S) PQ E = match S[p]? with
    | some (.lst xs) => Wq (assignEs cx ts xs ρ S) PQ E
    | _ => False := by
  simp only [assignE]
  cases h : S[p]? with
  | none => simp [Wq]
  | some o => cases o <;> simp [Wq]
theorem lm_idx : lmOf [105, 110, 100, 101, 120] = some .index := (rfl)
theorem k_idx {y : PV} : Wq (runM cx [y] S (.lst .index p)) P E = match S[p]? with
    | some (.lst ys) => (flat y && ys.all flat) = true ∧ ∃ j, ys.findIdx? (eqF · y) = some j ∧ P (.int (j : Nat)) S
    | _ => False := by
  simp only [runM, lmeth]
  cases h : S[p]? with
  | none => simp [Wq]
  | some o =>
    cases o with
    | lst ys =>
      simp only []
      split
      · rename_i h2
        cases h3 : ys.findIdx? (eqF · y) with
        | none => simp [Wq]
        | some j => simp [Wq, h2]
      · rename_i h2
        simp [Wq, h2]
    | _ => simp [Wq]
/-- o.f += e -/
theorem y_augf {o e : CE} {f : Sy} {op : BOp} : Ws (execS cx (.augf o f op e) ρ S) K EX = Wq (evalE cx o ρ S) (fun x S => Gq (getFld cx.T x f S) fun v => Wq (evalE cx e ρ S) (fun y S2 => Gq (augI op v y) fun z => clsAt x S = clsAt x S2 ∧ Zq cx.T x f z S2 fun S' => K (.nx ρ) S') (fun x S => EX x ρ S)) (fun x S => EX x ρ S) := by
  have e1 : ∀ {a : Prop} [Decidable a] {α : Type} {o : Option α} {Q : α → Prop}, (∃ v, (if a then o else none) = some v ∧ Q v) = (a ∧ ∃ v, o = some v ∧ Q v) := by
    intro a _ α o Q
    by_cases h : a
    · simp [h]
    · simp [h]
  simp only [execS, Ws_at, Wq_ofO, Ws_ok, Gq, Zq, setFldC, e1]
/-! ### texts -/
theorem k_mthS {T : Tab} {x m : Sy} {QM : MT → Prop} : Mq T (.str x) m S QM = (match smOf m with | some sm => QM (.str sm x) | none => False) := by
  simp only [Mq, mtOf]
  cases smOf m <;> simp
theorem sm_join : smOf [106, 111, 105, 110] = some .join := (rfl)
theorem sm_sw : smOf [115, 116, 97, 114, 116, 115, 119, 105, 116, 104] = some .startswith := (rfl)
theorem sm_low : smOf [108, 111, 119, 101, 114] = some .lower := (rfl)
theorem k_join {x : Sy} : Wq (runM cx [.ref p] S (.str .join x)) P E = match S[p]? with
    | some (.lst ys) => ∃ zs, strsOf ys = some zs ∧ (zs.map List.length).sum + zs.length * x.length ≤ nsz ∧ P (.str (joinS x zs)) S
    | _ => False := by
  simp only [runM, smeth]
  cases h : S[p]? with
  | none => simp [Wq]
  | some o =>
    cases o with
    | lst ys =>
      simp only []
      cases h2 : strsOf ys with
      | none => simp [Wq]
      | some zs =>
        simp only []
        split
        · rename_i hl
          simp [Wq, hl]
        · rename_i hl
          simp [Wq, hl]
    | _ => simp [Wq]
theorem k_sw {x y : Sy} : Wq (runM cx [.str y] S (.str .startswith x)) P E = P (.bl (decide (x.take y.length = y))) S := (rfl)
theorem u_strI {i : Int} (h : i.natAbs.log2 < 1920) : Wq (bfun .str [.int i] S) P E = P (.str (strI i)) S := by simp only [bfun, if_pos h, Wq_ok]
theorem u_strS {x : Sy} : Wq (bfun .str [.str x] S) P E = P (.str x) S := (rfl)
theorem o_muls {a : Sy} {k : Int} : Wq (bop .mul (.str a) (.int k) S) P E = ((-(2 ^ 63) ≤ k ∧ k < 2 ^ 63 ∧ a.length * k.toNat ≤ nsz) ∧ P (.str (List.replicate k.toNat a).flatten) S) := by simp only [bop, Wq_ite, Wq_ok, Wq_stuck]; simp [-Int.reduceLE, -Int.reduceLT, -Int.reducePow, -Int.reduceNeg]
theorem o_slcs {x : Sy} {l h : Option Int} : Wq (getSl (.str x) l h S) P E = (x.length ≤ nsz ∧ P (.str (cutL x l h)) S) := by simp only [getSl, Wq_ite, Wq_ok, Wq_stuck]; simp
theorem k_pop0 : Wq (runM cx [.int 0] S (.lst .pop p)) P E = match S[p]? with
    | some (.lst (y :: r)) => P y (S.set p (.lst r))
    | _ => False := by
  simp only [runM, lmeth]
  cases h : S[p]? with
  | none => simp [Wq]
  | some o =>
    cases o with
    | lst ys => cases ys <;> simp [Wq]
    | _ => simp [Wq]
def Xd (x y : PV) (S : Store) (Q : Store → Prop) : Prop := ∃ S', delIx x y S = some S' ∧ Q S'
theorem y_del {o i : CE} : Ws (execS cx (.del o i) ρ S) K EX = Wq (evalE cx o ρ S) (fun x S => Wq (evalE cx i ρ S) (fun y S => Xd x y S fun S' => K (.nx ρ) S') (fun x S => EX x ρ S)) (fun x S => EX x ρ S) := by
  simp only [execS, Ws_at, Wq_ofO, Ws_ok, Xd]
theorem k_del {y : PV} {Q : Store → Prop} : Xd (.ref p) y S Q = match S[p]? with
    | some (.dic false kvs) => (isKey false y && (dget kvs y).isSome) = true ∧ Q (S.set p (.dic false (ddrop kvs y)))
    | _ => False := by
  simp only [Xd, delIx]
  cases h : S[p]? with
  | none => simp
  | some o =>
    cases o with
    | dic t kvs =>
      cases t with
      | true => simp
      | false =>
        simp only []
        split
        · rename_i h2
          rw [h2]
          simp
        · rename_i h2
          simp [h2]
    | _ => simp
/-! ### two ways that meet again -/
def nxJ (I : Env → Store → Prop) (K : Fl → Store → Prop) : Fl → Store → Prop
  | .nx ρ, S => I ρ S
  | fl, S => K fl S
theorem nJ_nx {I : Env → Store → Prop} {K : Fl → Store → Prop} {ρ : Env} {S : Store} : nxJ I K (.nx ρ) S = I ρ S := (rfl)
theorem nJ_rt {I : Env → Store → Prop} {K : Fl → Store → Prop} {v : PV} {S : Store} : nxJ I K (.rt v) S = K (.rt v) S := (rfl)
theorem nJ_bk {I : Env → Store → Prop} {K : Fl → Store → Prop} {ρ : Env} {S : Store} : nxJ I K (.bk ρ) S = K (.bk ρ) S := (rfl)
theorem nJ_ct {I : Env → Store → Prop} {K : Fl → Store → Prop} {ρ : Env} {S : Store} : nxJ I K (.ct ρ) S = K (.ct ρ) S := (rfl)
theorem nxJ_nxt {cx : Cxi} {ss : CSs} {I : Env → Store → Prop} {K : Fl → Store → Prop} {E : Exn → Env → Store → Prop} (h3 : ∀ ρ S, I ρ S → Ws (execB cx ss ρ S) K E) : ∀ fl S, nxJ I K fl S → nxt cx ss K E fl S
  | .nx ρ, S, h => h3 ρ S h
  | .rt _, _, h => h
  | .bk _, _, h => h
  | .ct _, _, h => h
theorem Br_J {k : Bool} {cx : Cxi} {a b ss : CSs} {ρ ρ2 : Env} {S S2 : Store} {K : Fl → Store → Prop} {E : Exn → Env → Store → Prop} {p : Pin (Ws (execB cx a ρ S) (nxt cx ss K E) E)} {q : Pin (Ws (execB cx b ρ2 S2) (nxt cx ss K E) E)} (I : Env → Store → Prop)
    (h1 : k = true → Ws (execB cx a ρ S) (nxJ I K) E) (h2 : k = false → Ws (execB cx b ρ2 S2) (nxJ I K) E) (h3 : ∀ ρ S, I ρ S → Ws (execB cx ss ρ S) K E) : Br k (Ws (execB cx a ρ S) (nxt cx ss K E) E) (Ws (execB cx b ρ2 S2) (nxt cx ss K E) E) p q :=
  Br_i (fun h => (h1 h).mono (nxJ_nxt h3)) (fun h => (h2 h).mono (nxJ_nxt h3))
/-- any way on through a statement -/
theorem Ws_J {r : RS} {cx : Cxi} {ss : CSs} {K : Fl → Store → Prop} {E E' : Exn → Env → Store → Prop} (I : Env → Store → Prop) (h1 : Ws r (nxJ I K) E') (h3 : ∀ ρ S, I ρ S → Ws (execB cx ss ρ S) K E) : Ws r (nxt cx ss K E) E' := h1.mono (nxJ_nxt h3)
end L3
namespace LD
open L3 PySem L2
abbrev z_tuple : Sy := [116, 117, 112, 108, 101]
abbrev z_append : Sy := [97, 112, 112, 101, 110, 100]
abbrev z_extend : Sy := [101, 120, 116, 101, 110, 100]
abbrev z_pop : Sy := [112, 111, 112]
abbrev z_atom : Sy := [97, 116, 111, 109]
abbrev z_cut : Sy := [99, 117, 116]
abbrev z_abz019 : Sy := [97, 98, 122, 48, 49, 57]
abbrev z_abz : Sy := [97, 98, 122]
abbrev z_a : Sy := [97]
abbrev z_b : Sy := [98]
abbrev z_nil : Sy := [110, 105, 108]
abbrev z_x1 : Sy := [120, 49]
abbrev z_abcdefghijkl : Sy := [97, 98, 99, 100, 101, 102, 103, 104, 105, 106, 107, 108]
abbrev z_f : Sy := [102]
abbrev z_fa : Sy := [102, 97]
abbrev z_cons : Sy := [99, 111, 110, 115]
abbrev z_cell : Sy := [99, 101, 108, 108]
abbrev z_name : Sy := [110, 97, 109, 101]
abbrev z_int : Sy := [105, 110, 116]
abbrev z_var : Sy := [118, 97, 114]
abbrev z_refused : Sy := [114, 101, 102, 117, 115, 101, 100]
abbrev z_large : Sy := [108, 97, 114, 103, 101]
abbrev z_wide : Sy := [119, 105, 100, 101]
abbrev z_given : Sy := [103, 105, 118, 101, 110]
abbrev z_wrong : Sy := [119, 114, 111, 110, 103]
abbrev z_many : Sy := [109, 97, 110, 121]
abbrev i_parts_of : Nat := 0
abbrev i_head_of : Nat := 1
abbrev i_numbered : Nat := 2
abbrev i_classes : Nat := 3
abbrev i_least : Nat := 4
abbrev i_checked : Nat := 5
abbrev i_cut : Nat := 6
abbrev i__law_stream : Nat := 7
abbrev i__law_draw : Nat := 8
abbrev i__law_far : Nat := 9
abbrev i__law_atom : Nat := 10
abbrev i__law_node : Nat := 11
abbrev i__law_graph : Nat := 12
abbrev i__law_parts : Nat := 13
abbrev i__law_kinds : Nat := 14
abbrev i__law_met : Nat := 15
abbrev i__law_least : Nat := 16
abbrev i__law_cut : Nat := 17
abbrev i__law_given : Nat := 18
abbrev i__law_told : Nat := 19
abbrev i__law_wide : Nat := 20
abbrev i_law : Nat := 21
abbrev c_LeatworkError : Nat := 0
abbrev c_TooMany : Nat := 1
def b_parts_of : CSs := (.cons (.ite (.cmp .eq (.idx (.var 0) (.con (.int 0))) (.con (.str z_tuple))) (.cons (.ret (.idx (.var 0) (.con (.int 2)))) .nil) .nil) (.cons (.ret (.tup .nil)) .nil))
def f_parts_of : Fn := ⟨1, 1, b_parts_of⟩
def b_head_of : CSs := (.cons (.ite (.cmp .eq (.idx (.var 0) (.con (.int 0))) (.con (.str z_tuple))) (.cons (.ret (.tup (.cons (.con (.str z_tuple)) (.cons (.idx (.var 0) (.con (.int 1))) (.cons (.bf .len (.cons (.idx (.var 0) (.con (.int 2))) .nil)) .nil))))) .nil) .nil) (.cons (.ret (.var 0)) .nil))
def f_head_of : Fn := ⟨1, 1, b_head_of⟩
def b_numbered : CSs := (.cons (.asg (.name 1) (.dnew true)) (.cons (.ret (.lc [2] (.name 2) (.seq (.var 0)) (.con (.bl true)) (.dset (.var 1) (.var 2) (.bf .len (.cons (.var 1) .nil))))) .nil))
def f_numbered : Fn := ⟨1, 3, b_numbered⟩
def b_classes : CSs := (.cons (.asg (.name 1) (.cal i_numbered (.cons (.lc [5] (.name 5) (.seq (.var 0)) (.con (.bl true)) (.cal i_head_of (.cons (.var 5) .nil))) .nil))) (.cons (.asg (.name 2) (.con (.int 0))) (.cons (.whl (.cmp .gt (.lens (.var 1)) (.var 2)) (.cons (.asg (.name 2) (.lens (.var 1))) (.cons (.ite (.cmp .gt (.var 2) (.glo 0)) (.cons (.rai c_TooMany) .nil) .nil) (.cons (.asg (.name 3) (.lst .nil)) (.cons (.fr (.tup (.cons (.name 4) (.cons (.name 5) .nil))) (.enum (.var 0)) (.cons (.ex (.mth (.var 3) z_append (.cons (.bin .add (.tup (.cons (.idx (.var 1) (.var 4)) .nil)) (.bf .tuple (.cons (.lc [6] (.name 6) (.seq (.cal i_parts_of (.cons (.var 5) .nil))) (.con (.bl true)) (.idx (.var 1) (.var 6))) .nil))) .nil))) .nil)) (.cons (.asg (.name 1) (.cal i_numbered (.cons (.var 3) .nil))) .nil)))))) (.cons (.ret (.var 1)) .nil))))
def f_classes : Fn := ⟨1, 7, b_classes⟩
def b_least : CSs := (.cons (.asg (.name 1) (.cal i_classes (.cons (.var 0) .nil))) (.cons (.asg (.name 2) (.dnew false)) (.cons (.asg (.name 3) (.lst .nil)) (.cons (.asg (.name 4) (.lst (.cons (.con (.int 0)) .nil))) (.cons (.whl (.var 4) (.cons (.asg (.name 5) (.mth (.var 4) z_pop .nil)) (.cons (.ite (.cmp .nin (.idx (.var 1) (.var 5)) (.var 2)) (.cons (.asg (.sub (.var 2) (.idx (.var 1) (.var 5))) (.bf .len (.cons (.var 3) .nil))) (.cons (.ex (.mth (.var 3) z_append (.cons (.var 5) .nil))) (.cons (.ex (.mth (.var 4) z_extend (.cons (.rev (.cal i_parts_of (.cons (.idx (.var 0) (.var 5)) .nil))) .nil))) .nil))) .nil) .nil))) (.cons (.asg (.name 6) (.lst .nil)) (.cons (.fr (.name 5) (.seq (.var 3)) (.cons (.asg (.name 7) (.idx (.var 0) (.var 5))) (.cons (.ite (.cmp .eq (.idx (.var 7) (.con (.int 0))) (.con (.str z_tuple))) (.cons (.asg (.name 7) (.tup (.cons (.con (.str z_tuple)) (.cons (.idx (.var 7) (.con (.int 1))) (.cons (.bf .tuple (.cons (.lc [8] (.name 8) (.seq (.idx (.var 7) (.con (.int 2)))) (.con (.bl true)) (.idx (.var 2) (.idx (.var 1) (.var 8)))) .nil)) .nil))))) .nil) .nil) (.cons (.ex (.mth (.var 6) z_append (.cons (.var 7) .nil))) .nil)))) (.cons (.ret (.bf .tuple (.cons (.var 6) .nil))) .nil))))))))
def f_least : Fn := ⟨1, 9, b_least⟩
def b_checked : CSs := (.cons (.asg (.name 1) (.cal i_least (.cons (.var 0) .nil))) (.cons (.ite (.cmp .gt (.bf .len (.cons (.var 1) .nil)) (.glo 0)) (.cons (.rai c_TooMany) .nil) .nil) (.cons (.ret (.var 1)) .nil)))
def f_checked : Fn := ⟨1, 2, b_checked⟩
def b_cut : CSs := (.cons (.asg (.name 2) (.ddist (.tup (.cons (.con (.int 0)) (.cons (.con (.int 0)) .nil))) (.con (.int 0)))) (.cons (.asg (.name 3) (.lst (.cons (.tup (.cons (.con (.int 0)) (.cons (.con (.int 0)) .nil))) .nil))) (.cons (.asg (.name 4) (.lst .nil)) (.cons (.asg (.name 5) (.con (.int 0))) (.cons (.whl (.cmp .lt (.var 5) (.bf .len (.cons (.var 3) .nil))) (.cons (.asg (.tup (.cons (.name 6) (.cons (.name 7) .nil))) (.idx (.var 3) (.var 5))) (.cons (.aug 5 .add (.con (.int 1))) (.cons (.ite (.and (.cmp .eq (.idx (.idx (.var 0) (.var 6)) (.con (.int 0))) (.con (.str z_tuple))) (.cmp .eq (.var 7) (.var 1))) (.cons (.ex (.mth (.var 4) z_append (.cons (.tup (.cons (.con (.str z_atom)) (.cons (.con (.str z_cut)) .nil))) .nil))) .nil) (.cons (.ite (.cmp .eq (.idx (.idx (.var 0) (.var 6)) (.con (.int 0))) (.con (.str z_tuple))) (.cons (.asg (.name 8) (.lst .nil)) (.cons (.fr (.name 9) (.seq (.idx (.idx (.var 0) (.var 6)) (.con (.int 2)))) (.cons (.asg (.name 10) (.tup (.cons (.var 9) (.cons (.bin .add (.var 7) (.con (.int 1))) .nil)))) (.cons (.ite (.cmp .nin (.var 10) (.var 2)) (.cons (.asg (.sub (.var 2) (.var 10)) (.bf .len (.cons (.var 3) .nil))) (.cons (.ex (.mth (.var 3) z_append (.cons (.var 10) .nil))) .nil)) .nil) (.cons (.ex (.mth (.var 8) z_append (.cons (.idx (.var 2) (.var 10)) .nil))) .nil)))) (.cons (.ex (.mth (.var 4) z_append (.cons (.tup (.cons (.con (.str z_tuple)) (.cons (.idx (.idx (.var 0) (.var 6)) (.con (.int 1))) (.cons (.bf .tuple (.cons (.var 8) .nil)) .nil)))) .nil))) .nil))) (.cons (.ex (.mth (.var 4) z_append (.cons (.idx (.var 0) (.var 6)) .nil))) .nil)) .nil)) .nil)))) (.cons (.ret (.cal i_checked (.cons (.bf .tuple (.cons (.var 4) .nil)) .nil))) .nil))))))
def f_cut : Fn := ⟨2, 11, b_cut⟩
def b__law_stream : CSs := (.cons (.asg (.name 1) (.con (.int 17))) (.cons (.fr (.name 2) (.seq (.var 0)) (.cons (.asg (.name 1) (.bin .mod (.bf .int (.cons (.bin .add (.bin .add (.bin .mul (.var 1) (.con (.int 48271))) (.bin .mod (.bf .int (.cons (.var 2) .nil)) (.con (.int 65521)))) (.con (.int 1))) .nil)) (.con (.int 2147483647)))) .nil)) (.cons (.ret (.lst (.cons (.bf .list (.cons (.var 0) .nil)) (.cons (.con (.int 0)) (.cons (.con (.int 0)) (.cons (.var 1) .nil)))))) .nil)))
def f__law_stream : Fn := ⟨1, 3, b__law_stream⟩
def b__law_draw : CSs := (.cons (.ite (.and (.cmp .eq (.idx (.var 0) (.con (.int 1))) (.con (.int 0))) (.cmp .lt (.idx (.var 0) (.con (.int 2))) (.bf .len (.cons (.idx (.var 0) (.con (.int 0))) .nil)))) (.cons (.asg (.sub (.var 0) (.con (.int 1))) (.bf .abs (.cons (.bf .int (.cons (.idx (.idx (.var 0) (.con (.int 0))) (.idx (.var 0) (.con (.int 2)))) .nil)) .nil))) (.cons (.asg (.sub (.var 0) (.con (.int 2))) (.bin .add (.idx (.var 0) (.con (.int 2))) (.con (.int 1)))) .nil)) .nil) (.cons (.ite (.cmp .eq (.idx (.var 0) (.con (.int 1))) (.con (.int 0))) (.cons (.asg (.sub (.var 0) (.con (.int 3))) (.bin .mod (.bf .int (.cons (.bin .add (.bin .mul (.idx (.var 0) (.con (.int 3))) (.con (.int 48271))) (.con (.int 11))) .nil)) (.con (.int 2147483647)))) (.cons (.ret (.bin .mod (.bf .int (.cons (.bin .fdiv (.idx (.var 0) (.con (.int 3))) (.con (.int 97))) .nil)) (.var 1))) .nil)) .nil) (.cons (.asg (.name 2) (.bin .mod (.bf .int (.cons (.idx (.var 0) (.con (.int 1))) .nil)) (.var 1))) (.cons (.asg (.sub (.var 0) (.con (.int 1))) (.bin .fdiv (.idx (.var 0) (.con (.int 1))) (.var 1))) (.cons (.ret (.var 2)) .nil)))))
def f__law_draw : Fn := ⟨2, 3, b__law_draw⟩
def b__law_far : CSs := (.cons (.ite (.cmp .gt (.cal i__law_draw (.cons (.var 0) (.cons (.con (.int 4)) .nil))) (.con (.int 0))) (.cons (.ret (.cal i__law_draw (.cons (.var 0) (.cons (.con (.int 3)) .nil)))) .nil) .nil) (.cons (.ret (.idx (.lst (.cons (.con (.int 10)) (.cons (.con (.int 12)) (.cons (.bin .pow (.con (.int 10)) (.con (.int 9))) (.cons (.cal i__law_draw (.cons (.var 0) (.cons (.bin .pow (.con (.int 10)) (.con (.int 9))) .nil))) .nil))))) (.cal i__law_draw (.cons (.var 0) (.cons (.con (.int 4)) .nil))))) .nil))
def f__law_far : Fn := ⟨1, 1, b__law_far⟩
def b__law_atom : CSs := (.cons (.ite (.cmp .gt (.cal i__law_draw (.cons (.var 0) (.cons (.con (.int 3)) .nil))) (.con (.int 0))) (.cons (.ret (.idx (.lst (.cons (.con (.str z_a)) (.cons (.con (.str z_b)) (.cons (.con (.str z_nil)) (.cons (.con (.str z_x1)) (.cons (.con (.str z_abcdefghijkl)) .nil)))))) (.cal i__law_draw (.cons (.var 0) (.cons (.con (.int 5)) .nil))))) .nil) .nil) (.cons (.asg (.name 1) (.idx (.con (.str z_abz)) (.cal i__law_draw (.cons (.var 0) (.cons (.con (.int 3)) .nil))))) (.cons (.fr (.name 2) (.rng (.cal i__law_draw (.cons (.var 0) (.cons (.con (.int 3)) .nil)))) (.cons (.asg (.name 1) (.bin .add (.var 1) (.idx (.con (.str z_abz019)) (.cal i__law_draw (.cons (.var 0) (.cons (.con (.int 6)) .nil)))))) .nil)) (.cons (.ret (.var 1)) .nil))))
def f__law_atom : Fn := ⟨1, 3, b__law_atom⟩
def b__law_node : CSs := (.cons (.asg (.name 2) (.cal i__law_draw (.cons (.var 0) (.cons (.con (.int 9)) .nil)))) (.cons (.ite (.cmp .eq (.var 2) (.con (.int 0))) (.cons (.ret (.tup (.cons (.con (.str z_var)) (.cons (.cal i__law_far (.cons (.var 0) .nil)) .nil)))) .nil) .nil) (.cons (.ite (.cmp .eq (.var 2) (.con (.int 1))) (.cons (.ret (.tup (.cons (.con (.str z_int)) (.cons (.idx (.lst (.cons (.con (.int 0)) (.cons (.con (.int 1)) (.cons (.neg (.con (.int 1))) (.cons (.con (.int 7)) (.cons (.neg (.con (.int 12))) (.cons (.bin .pow (.con (.int 10)) (.con (.int 9))) (.cons (.neg (.bin .pow (.con (.int 10)) (.con (.int 9)))) .nil)))))))) (.cal i__law_draw (.cons (.var 0) (.cons (.con (.int 7)) .nil)))) .nil)))) .nil) .nil) (.cons (.ite (.cmp .eq (.var 2) (.con (.int 2))) (.cons (.ret (.tup (.cons (.con (.str z_atom)) (.cons (.cal i__law_atom (.cons (.var 0) .nil)) .nil)))) .nil) .nil) (.cons (.ite (.cmp .eq (.var 2) (.con (.int 3))) (.cons (.ret (.tup (.cons (.con (.str z_name)) (.cons (.cal i__law_atom (.cons (.var 0) .nil)) (.cons (.cal i__law_far (.cons (.var 0) .nil)) .nil))))) .nil) .nil) (.cons (.asg (.name 3) (.lc [4] (.name 4) (.rng (.idx (.lst (.cons (.con (.int 1)) (.cons (.con (.int 2)) (.cons (.con (.int 2)) (.cons (.con (.int 3)) (.cons (.con (.int 6)) .nil)))))) (.cal i__law_draw (.cons (.var 0) (.cons (.con (.int 5)) .nil))))) (.con (.bl true)) (.cal i__law_draw (.cons (.var 0) (.cons (.var 1) .nil))))) (.cons (.ret (.tup (.cons (.con (.str z_tuple)) (.cons (.idx (.lst (.cons (.con (.str z_f)) (.cons (.con (.str z_f)) (.cons (.con (.str z_fa)) (.cons (.con (.str z_cons)) (.cons (.con (.str z_cell)) .nil)))))) (.cal i__law_draw (.cons (.var 0) (.cons (.con (.int 5)) .nil)))) (.cons (.bf .tuple (.cons (.var 3) .nil)) .nil))))) .nil)))))))
def f__law_node : Fn := ⟨2, 5, b__law_node⟩
def b__law_graph : CSs := (.cons (.asg (.name 2) (.bin .add (.con (.int 1)) (.cal i__law_draw (.cons (.var 0) (.cons (.var 1) .nil))))) (.cons (.ret (.bf .tuple (.cons (.lc [3] (.name 3) (.rng (.var 2)) (.con (.bl true)) (.cal i__law_node (.cons (.var 0) (.cons (.var 2) .nil)))) .nil))) .nil))
def f__law_graph : Fn := ⟨2, 4, b__law_graph⟩
def b__law_parts : CSs := (.cons (.ite (.cmp .eq (.idx (.var 0) (.con (.int 0))) (.con (.str z_tuple))) (.cons (.ret (.bf .list (.cons (.idx (.var 0) (.con (.int 2))) .nil))) .nil) .nil) (.cons (.ret (.lst .nil)) .nil))
def f__law_parts : Fn := ⟨1, 1, b__law_parts⟩
def b__law_kinds : CSs := (.cons (.asg (.name 1) (.bin .mul (.lst (.cons (.con (.int 0)) .nil)) (.bf .len (.cons (.var 0) .nil)))) (.cons (.asg (.name 2) (.con (.int 0))) (.cons (.asg (.name 3) (.con (.int 1))) (.cons (.whl (.cmp .gt (.var 3) (.var 2)) (.cons (.asg (.name 2) (.var 3)) (.cons (.asg (.name 4) (.dnew true)) (.cons (.asg (.name 5) (.lst .nil)) (.cons (.fr (.name 6) (.seq (.var 0)) (.cons (.asg (.name 7) (.var 6)) (.cons (.ite (.cmp .eq (.idx (.var 6) (.con (.int 0))) (.con (.str z_tuple))) (.cons (.asg (.name 7) (.bin .add (.slc (.var 6) .no (.ex (.con (.int 2)))) (.bf .tuple (.cons (.lc [8] (.name 8) (.seq (.idx (.var 6) (.con (.int 2)))) (.con (.bl true)) (.idx (.var 1) (.var 8))) .nil)))) .nil) .nil) (.cons (.ite (.cmp .nin (.var 7) (.var 4)) (.cons (.asg (.sub (.var 4) (.var 7)) (.bf .len (.cons (.var 4) .nil))) .nil) .nil) (.cons (.ex (.mth (.var 5) z_append (.cons (.idx (.var 4) (.var 7)) .nil))) .nil))))) (.cons (.asg (.name 1) (.var 5)) (.cons (.asg (.name 3) (.bf .len (.cons (.var 4) .nil))) .nil))))))) (.cons (.ret (.var 1)) .nil)))))
def f__law_kinds : Fn := ⟨1, 9, b__law_kinds⟩
def b__law_met : CSs := (.cons (.ite (.cmp .inn (.idx (.var 1) (.var 2)) (.var 3)) (.cons (.ret (.con .non)) .nil) .nil) (.cons (.asg (.sub (.var 3) (.idx (.var 1) (.var 2))) (.tup (.cons (.bf .len (.cons (.var 3) .nil)) (.cons (.var 2) .nil)))) (.cons (.fr (.name 4) (.seq (.cal i__law_parts (.cons (.idx (.var 0) (.var 2)) .nil))) (.cons (.ex (.cal i__law_met (.cons (.var 0) (.cons (.var 1) (.cons (.var 4) (.cons (.var 3) .nil)))))) .nil)) (.cons (.ret (.con .non)) .nil))))
def f__law_met : Fn := ⟨4, 5, b__law_met⟩
def b__law_least : CSs := (.cons (.asg (.name 1) (.cal i__law_kinds (.cons (.var 0) .nil))) (.cons (.asg (.name 2) (.dnew false)) (.cons (.ex (.cal i__law_met (.cons (.var 0) (.cons (.var 1) (.cons (.con (.int 0)) (.cons (.var 2) .nil)))))) (.cons (.asg (.name 3) (.lst .nil)) (.cons (.lck 2 (.fr (.name 4) (.kys 2) (.cons (.asg (.name 5) (.idx (.var 0) (.idx (.idx (.var 2) (.var 4)) (.con (.int 1))))) (.cons (.ite (.cmp .eq (.idx (.var 5) (.con (.int 0))) (.con (.str z_tuple))) (.cons (.asg (.name 5) (.bin .add (.slc (.var 5) .no (.ex (.con (.int 2)))) (.tup (.cons (.bf .tuple (.cons (.lc [6] (.name 6) (.seq (.idx (.var 5) (.con (.int 2)))) (.con (.bl true)) (.idx (.idx (.var 2) (.idx (.var 1) (.var 6))) (.con (.int 0)))) .nil)) .nil)))) .nil) .nil) (.cons (.ex (.mth (.var 3) z_append (.cons (.var 5) .nil))) .nil))))) (.cons (.ret (.bf .tuple (.cons (.var 3) .nil))) .nil))))))
def f__law_least : Fn := ⟨1, 7, b__law_least⟩
def b__law_cut : CSs := (.cons (.asg (.name 2) (.lst .nil)) (.cons (.asg (.name 3) (.bf .len (.cons (.var 0) .nil))) (.cons (.fr (.name 4) (.rng (.bin .add (.var 1) (.con (.int 1)))) (.cons (.fr (.name 5) (.seq (.var 0)) (.cons (.ite (.and (.cmp .eq (.idx (.var 5) (.con (.int 0))) (.con (.str z_tuple))) (.cmp .eq (.var 4) (.var 1))) (.cons (.asg (.name 5) (.tup (.cons (.con (.str z_atom)) (.cons (.con (.str z_cut)) .nil)))) .nil) (.cons (.ite (.cmp .eq (.idx (.var 5) (.con (.int 0))) (.con (.str z_tuple))) (.cons (.asg (.name 5) (.bin .add (.slc (.var 5) .no (.ex (.con (.int 2)))) (.tup (.cons (.bf .tuple (.cons (.lc [6] (.name 6) (.seq (.idx (.var 5) (.con (.int 2)))) (.con (.bl true)) (.bin .add (.var 6) (.bin .mul (.var 3) (.bin .add (.var 4) (.con (.int 1)))))) .nil)) .nil)))) .nil) .nil) .nil)) (.cons (.ex (.mth (.var 2) z_append (.cons (.var 5) .nil))) .nil))) .nil)) (.cons (.ret (.cal i__law_least (.cons (.bf .tuple (.cons (.var 2) .nil)) .nil))) .nil))))
def f__law_cut : Fn := ⟨2, 7, b__law_cut⟩
def b__law_given : CSs := (.cons (.ite (.or (.cmp .is (.var 0) (.con .non)) (.and (.isi (.var 0) .tuple) (.cmp .inn (.slc (.var 0) .no (.ex (.con (.int 1)))) (.tup (.cons (.tup (.cons (.con (.str z_refused)) .nil)) (.cons (.tup (.cons (.con (.str z_large)) .nil)) (.cons (.tup (.cons (.con (.str z_wide)) .nil)) .nil))))))) (.cons (.ret (.lst (.cons (.con (.str z_given)) .nil))) .nil) .nil) (.cons (.ret (.var 0)) .nil))
def f__law_given : Fn := ⟨1, 1, b__law_given⟩
def b__law_told : CSs := (.cons (.try (.cons (.ret (.cal i__law_given (.cons (.cal i_cut (.cons (.var 0) (.cons (.var 1) .nil))) .nil))) .nil) c_TooMany (some 2) (.cons (some c_LeatworkError) (.tup (.cons (.con (.str z_refused)) (.cons (.con (.str z_many)) .nil))) .nil)) (.cons (.ret (.tup (.cons (.con (.str z_refused)) (.cons (.con (.str z_wrong)) .nil)))) .nil))
def f__law_told : Fn := ⟨2, 3, b__law_told⟩
def b__law_wide : CSs := (.cons (.asg (.name 1) (.lst .nil)) (.cons (.asg (.name 2) (.bin .add (.con (.int 90)) (.cal i__law_draw (.cons (.var 0) (.cons (.con (.int 40)) .nil))))) (.cons (.fr (.name 3) (.rng (.var 2)) (.cons (.asg (.name 4) (.lc [5] (.name 5) (.rng (.con (.int 6))) (.con (.bl true)) (.bin .mod (.bf .int (.cons (.bin .add (.bin .add (.bin .mul (.var 3) (.bin .add (.var 5) (.con (.int 2)))) (.bin .mul (.con (.int 3)) (.var 5))) (.con (.int 1))) .nil)) (.var 2)))) (.cons (.ex (.mth (.var 1) z_append (.cons (.tup (.cons (.con (.str z_tuple)) (.cons (.con (.str z_f)) (.cons (.bf .tuple (.cons (.var 4) .nil)) .nil)))) .nil))) .nil))) (.cons (.asg (.sub (.var 1) (.con (.int 1))) (.tup (.cons (.con (.str z_atom)) (.cons (.con (.str z_a)) .nil)))) (.cons (.asg (.sub (.var 1) (.con (.int 2))) (.tup (.cons (.con (.str z_int)) (.cons (.con (.int 5)) .nil)))) (.cons (.ret (.bf .tuple (.cons (.var 1) .nil))) .nil))))))
def f__law_wide : Fn := ⟨1, 6, b__law_wide⟩
def b_law : CSs := (.cons (.asg (.name 1) (.cal i__law_stream (.cons (.var 0) .nil))) (.cons (.asg (.name 2) (.cal i__law_graph (.cons (.var 1) (.cons (.con (.int 7)) .nil)))) (.cons (.asg (.name 3) (.cal i__law_draw (.cons (.var 1) (.cons (.con (.int 7)) .nil)))) (.cons (.ite (.cmp .eq (.cal i__law_draw (.cons (.var 1) (.cons (.con (.int 32)) .nil))) (.con (.int 0))) (.cons (.asg (.name 2) (.cal i__law_wide (.cons (.var 1) .nil))) (.cons (.asg (.name 3) (.bin .add (.con (.int 3)) (.cal i__law_draw (.cons (.var 1) (.cons (.con (.int 4)) .nil))))) .nil)) .nil) (.cons (.asg (.name 4) (.cal i__law_cut (.cons (.var 2) (.cons (.var 3) .nil)))) (.cons (.ite (.cmp .gt (.bf .len (.cons (.var 4) .nil)) (.con (.int 400))) (.cons (.asg (.name 4) (.tup (.cons (.con (.str z_refused)) (.cons (.con (.str z_many)) .nil)))) .nil) .nil) (.cons (.asg (.name 5) (.cal i__law_told (.cons (.var 2) (.cons (.var 3) .nil)))) (.cons (.ret (.cmp .eq (.var 5) (.var 4))) .nil))))))))
def f_law : Fn := ⟨1, 6, b_law⟩
abbrev g_MOST_NODES : PV := (.int 400)
/-- the table: 0 parts_of, 1 head_of, 2 numbered, 3 classes, 4 least, 5 checked, 6 cut, 7 _law_stream, 8 _law_draw, 9 _law_far, 10 _law_atom, 11 _law_node, 12 _law_graph, 13 _law_parts, 14 _law_kinds, 15 _law_met, 16 _law_least, 17 _law_cut, 18 _law_given, 19 _law_told, 20 _law_wide, 21 law -/
def tab : Tab := { fns := [f_parts_of, f_head_of, f_numbered, f_classes, f_least, f_checked, f_cut, f__law_stream, f__law_draw, f__law_far, f__law_atom, f__law_node, f__law_graph, f__law_parts, f__law_kinds, f__law_met, f__law_least, f__law_cut, f__law_given, f__law_told, f__law_wide, f_law], glob := [g_MOST_NODES], kds := [], meths := [], inits := [], attrs := [], xs := [0, 1], sub := [(0, 0), (1, 0), (1, 1)] }
theorem tab_parts_of : tab.fns[i_parts_of]? = some f_parts_of := rfl
theorem tab_head_of : tab.fns[i_head_of]? = some f_head_of := rfl
theorem tab_numbered : tab.fns[i_numbered]? = some f_numbered := rfl
theorem tab_classes : tab.fns[i_classes]? = some f_classes := rfl
theorem tab_least : tab.fns[i_least]? = some f_least := rfl
theorem tab_checked : tab.fns[i_checked]? = some f_checked := rfl
theorem tab_cut : tab.fns[i_cut]? = some f_cut := rfl
theorem tab__law_stream : tab.fns[i__law_stream]? = some f__law_stream := rfl
theorem tab__law_draw : tab.fns[i__law_draw]? = some f__law_draw := rfl
theorem tab__law_far : tab.fns[i__law_far]? = some f__law_far := rfl
theorem tab__law_atom : tab.fns[i__law_atom]? = some f__law_atom := rfl
theorem tab__law_node : tab.fns[i__law_node]? = some f__law_node := rfl
theorem tab__law_graph : tab.fns[i__law_graph]? = some f__law_graph := rfl
theorem tab__law_parts : tab.fns[i__law_parts]? = some f__law_parts := rfl
theorem tab__law_kinds : tab.fns[i__law_kinds]? = some f__law_kinds := rfl
theorem tab__law_met : tab.fns[i__law_met]? = some f__law_met := rfl
theorem tab__law_least : tab.fns[i__law_least]? = some f__law_least := rfl
theorem tab__law_cut : tab.fns[i__law_cut]? = some f__law_cut := rfl
theorem tab__law_given : tab.fns[i__law_given]? = some f__law_given := rfl
theorem tab__law_told : tab.fns[i__law_told]? = some f__law_told := rfl
theorem tab__law_wide : tab.fns[i__law_wide]? = some f__law_wide := rfl
theorem tab_law : tab.fns[i_law]? = some f_law := rfl
theorem glob_MOST_NODES : tab.glob[0]? = some g_MOST_NODES := rfl
end LD
set_option maxRecDepth 100000
namespace LD
open L3
/-! ### graphs: nodes, their values -/
inductive Nd where
  | var (n : Int) | int (n : Int) | atom (a : Sy) | name (a : Sy) (n : Int) | tup (a : Sy) (ps : List Nat)
  deriving DecidableEq, Inhabited
def pvI (k : Nat) : PV := .int k
def Nd.pv : Nd → PV
  | .var n => .tup [.str z_var, .int n]
  | .int n => .tup [.str z_int, .int n]
  | .atom a => .tup [.str z_atom, .str a]
  | .name a n => .tup [.str z_name, .str a, .int n]
  | .tup a ps => .tup [.str z_tuple, .str a, .tup (ps.map pvI)]
def Nd.parts : Nd → List Nat
  | .tup _ ps => ps
  | _ => []
def Nd.head : Nd → PV
  | .tup a ps => .tup [.str z_tuple, .str a, .int ps.length]
  | nd => nd.pv
def gpv (g : List Nd) : PV := .tup (g.map Nd.pv)
theorem intsOf_nat : ∀ K : List Nat, intsOf (K.map pvI) = some (K.map Int.ofNat)
  | [] => rfl
  | k :: K => by
    simp only [List.map_cons, intsOf, intsOf_nat K, Option.map_some, pvI]
    rfl
/-- the parts lie in the graph -/
def okG (g : List Nd) : Prop := ∀ x ∈ g, x.parts.length ≤ 1000 ∧ ∀ j ∈ x.parts, j < g.length
/-- what stands elsewhere than at W stays -/
structure Fr (W : List Nat) (S S' : Store) : Prop where
  len : S.length ≤ S'.length
  at_ : ∀ q o, q ∉ W → S[q]? = some o → S'[q]? = some o
theorem Fr.refl {W : List Nat} (S : Store) : Fr W S S := ⟨Nat.le_refl _, fun _ _ _ h => h⟩
theorem Fr.trans {W : List Nat} {S S1 S2 : Store} (a : Fr W S S1) (b : Fr W S1 S2) : Fr W S S2 := ⟨Nat.le_trans a.len b.len, fun q o h e => b.at_ q o h (a.at_ q o h e)⟩
theorem Fr.grow {W : List Nat} {S S' : Store} (g : Grow S S') : Fr W S S' := ⟨g.len, fun q o _ e => g.at e⟩
theorem Fr.set {W : List Nat} {S S' : Store} {p : Nat} {o : MO} (f : Fr W S S') (h : p ∈ W ∨ S.length ≤ p) : Fr W S (S'.set p o) :=
  ⟨by simpa using f.len, fun q o' hq e => by
    rw [List.getElem?_set_ne]
    · exact f.at_ q o' hq e
    · rintro rfl
      rcases h with h | h
      · exact hq h
      · have := (List.getElem?_eq_some_iff.mp e).1
        omega⟩
theorem Fr.push {W : List Nat} {S S' Z : Store} (f : Fr W S S') : Fr W S (S' ++ Z) := f.trans (Fr.grow (Grow.push _ _))
theorem Fr.mono {W W' : List Nat} {S S' : Store} (f : Fr W S S') (h : ∀ q ∈ W, q ∈ W') : Fr W' S S' := ⟨f.len, fun q o hq e => f.at_ q o (fun z => hq (h q z)) e⟩
end LD
set_option maxRecDepth 100000
namespace LD
open L3
local macro_rules | `(tactic| walk_at "e") => `(tactic| try simp -dsimp only [↓y_cons, ↓y_if, ↓y_asub, ↓W_rt, ↓W_ex, ↓W_fr, ↓W_lc, ↓W_pass, ↓W_brk, ↓W_cnt, ↓W_retn, ↓W_nil, ↓nxt_nx, ↓nxt_rt, ↓nxt_bk, ↓nxt_ct, ↓retK_rt, ↓retK_nx, ↓e_con, ↓e_glo, ↓e_tup, ↓e_lst, ↓e_bin, ↓e_negi, ↓e_nt, ↓T_idx, ↓T_cal, ↓T_bf, ↓T_bin, ↓T_tup, ↓T_fld, ↓T_mth, ↓T_ife, ↓T_var, ↓T_glo, ↓T_con, ↓T_cmp, ↓T_chn, ↓T_isi, ↓T_nt, ↓T_and, ↓T_or, ↓e_and, ↓e_or, ↓e_ife, ↓e_cmp, ↓e_chn, ↓e_idx, ↓e_slc, ↓e_fld, ↓e_cal, ↓e_mth, ↓e_dnew, ↓e_lens, ↓m_fn, ↓Iq_R, ↓e_bf1, ↓e_bf, ↓e_isi, ↓es_nil, ↓es_cons, ↓eo_no, ↓i_seq, ↓q_tup, ↓q_rol, ↓q_str, ↓o_addi, ↓o_subi, ↓o_p9, ↓o_slct, ↓u_lenT, ↓u_lenC, ↓u_int, ↓u_abs, ↓u_max, ↓u_min, ↓u_tupT, ↓u_lstT, ↓u_lstC, ↓Br_t, ↓Br_f, ↓Br_n, ↓Tq_bl, ↓Tq_int, ↓Tq_tup, ↓Tq_rol, ↓Tq_non, ↓Gq_s, ↓Yq_non, ↓Yq_bl, ↓Yq_int, ↓Yq_str, ↓Yq_tup, ↓Yq_rol, ↓Cq_isnn, ↓Cq_isN, ↓Iq_T, ↓Iq_C, ↓Cq_eqi, ↓Cq_nei, ↓Cq_eqs, ↓Cq_nes, ↓Cq_eqb, ↓Cq_neb, ↓Cq_lti, ↓Cq_lei, ↓Cq_gti, ↓Cq_gei, ↓Cq_isb, ↓Cq_isnb, ↓Cq_lts, ↓Cq_inn1, ↓Cq_nin1, ↓v_0, ↓n_0, ↓g_0, ↓t_0, ↓v_1, ↓n_1, ↓g_1, ↓t_1, ↓v_2, ↓n_2, ↓g_2, ↓t_2, ↓v_3, ↓n_3, ↓g_3, ↓t_3, ↓v_4, ↓n_4, ↓g_4, ↓t_4, ↓v_5, ↓n_5, ↓g_5, ↓t_5, ↓v_6, ↓n_6, ↓g_6, ↓t_6, ↓v_7, ↓n_7, ↓g_7, ↓t_7, ↓v_8, ↓n_8, ↓g_8, ↓t_8, ↓v_9, ↓n_9, ↓g_9, ↓t_9, ↓v_10, ↓n_10, ↓g_10, ↓t_10, ↓v_11, ↓n_11, ↓g_11, ↓t_11, ↓v_12, ↓n_12, ↓g_12, ↓t_12, ↓v_13, ↓n_13, ↓g_13, ↓t_13, Iq_R, Br_t, Br_f, Br_n, Tq_bl, Tq_int, Tq_tup, Tq_rol, Tq_non, Gq_s, Yq_non, Yq_bl, Yq_int, Yq_str, Yq_tup, Yq_rol, Cq_isnn, Cq_isN, Iq_T, Iq_C, Cq_eqi, Cq_nei, Cq_eqs, Cq_nes, Cq_eqb, Cq_neb, Cq_lti, Cq_lei, Cq_gti, Cq_gei, Cq_isb, Cq_isnb, Cq_lts, Cq_inn1, Cq_nin1, e_neg, eo_ex, i_rng, i_rng2, y_aug, at_0, at_1, at_2, at_3, cxF_T, cxF_call, Bool.not_true, Bool.not_false, Bool.false_eq_true, if_true, if_false, tyB, PV.int.injEq, exists_eq_left, exists_eq_left', List.isEmpty_nil, List.isEmpty_cons, List.length_cons, List.length_nil, List.map_cons, List.map_nil, Option.map_some, startEnv, List.replicate, List.cons_append, List.nil_append, PV.int.injEq, ↓cG, ↓e_ddis, ↓y_afld, ↓y_atup, ↓t_tup, ↓ts_nil, ↓ts_cons, ↓e_dget1, ↓e_dget2, ↓e_dset, ↓e_lzip, ↓e_rev, ↓i_enum, ↓y_augs, ↓y_try, ↓y_rai, ↓h_nil, ↓h_ret, ↓h_isi, ↓e_ddist, ↓e_kdi, ↓e_lrng, ↓i_zip, ↓i_rvd, ↓y_del, ↓e_negU, ↓y_augf, ↓v_14, ↓n_14, ↓g_14, ↓t_14, ↓v_15, ↓n_15, ↓g_15, ↓t_15, ↓v_16, ↓n_16, ↓g_16, ↓t_16, ↓v_17, ↓n_17, ↓g_17, ↓t_17, ↓v_18, ↓n_18, ↓g_18, ↓t_18, ↓v_19, ↓n_19, ↓g_19, ↓t_19, ↓v_20, ↓n_20, ↓g_20, ↓t_20, ↓v_21, ↓n_21, ↓g_21, ↓t_21, ↓v_22, ↓n_22, ↓g_22, ↓t_22, ↓v_23, ↓n_23, ↓g_23, ↓t_23, u_intB, o_muli, o_modi, o_fdivi, cG, k_ix, ixO_L, ixO_D, ixO_F, k_sx, k_sf, k_fld, k_tr, k_ty, k_in, k_nin, k_int_i, k_int_s, k_int_b, k_int_n, k_nint, k_inr, k_ninr, k_len, k_tuple, k_list, k_sorted, k_min, k_q, k_lens, k_add, k_mul, k_slc, k_mth, mqO_L, lm_app, lm_ext, lm_pop, k_app, k_extT, k_extL, k_pop, k_isd, k_dget, k_dset, k_lzip, k_revT, k_revL, k_enT, k_enL, o_subb, k_ltT, k_gtT, k_ltL, k_lrng, k_zip, Uq_i, t_tupL, lm_idx, k_idx, k_del, k_mthS, sm_join, sm_sw, sm_low, k_join, k_sw, u_strS, k_pop0, nJ_nx, nJ_rt, nJ_bk, nJ_ct, inL_t, inL_i, inL_s, inL_b, inL_n, wipe_1, wipe_nil, app_0, app_k, sapp_0, sapp_k, List.getElem?_cons_zero, List.getElem?_cons_succ, List.set_cons_zero, List.set_cons_succ, List.append_assoc, List.length_append, Nat.reduceAdd, glob_MOST_NODES, g_MOST_NODES])
local macro_rules | `(tactic| walk_at "s") => `(tactic| try simp -dsimp only [↓y_cons, ↓y_if, ↓y_asub, ↓W_rt, ↓W_ex, ↓W_fr, ↓W_lc, ↓W_pass, ↓W_brk, ↓W_cnt, ↓W_retn, ↓W_nil, ↓nxt_nx, ↓nxt_rt, ↓nxt_bk, ↓nxt_ct, ↓retK_rt, ↓retK_nx, ↓e_con, ↓e_glo, ↓e_tup, ↓e_lst, ↓e_bin, ↓e_negi, ↓e_nt, ↓T_idx, ↓T_cal, ↓T_bf, ↓T_bin, ↓T_tup, ↓T_fld, ↓T_mth, ↓T_ife, ↓T_var, ↓T_glo, ↓T_con, ↓T_cmp, ↓T_chn, ↓T_isi, ↓T_nt, ↓T_and, ↓T_or, ↓e_and, ↓e_or, ↓e_ife, ↓e_cmp, ↓e_chn, ↓e_idx, ↓e_slc, ↓e_fld, ↓e_cal, ↓e_mth, ↓e_dnew, ↓e_lens, ↓m_fn, ↓Iq_R, ↓e_bf1, ↓e_bf, ↓e_isi, ↓es_nil, ↓es_cons, ↓eo_no, ↓i_seq, ↓q_tup, ↓q_rol, ↓q_str, ↓o_addi, ↓o_subi, ↓o_p9, ↓o_slct, ↓u_lenT, ↓u_lenC, ↓u_int, ↓u_abs, ↓u_max, ↓u_min, ↓u_tupT, ↓u_lstT, ↓u_lstC, ↓Br_t, ↓Br_f, ↓Br_n, ↓Tq_bl, ↓Tq_int, ↓Tq_tup, ↓Tq_rol, ↓Tq_non, ↓Gq_s, ↓Yq_non, ↓Yq_bl, ↓Yq_int, ↓Yq_str, ↓Yq_tup, ↓Yq_rol, ↓Cq_isnn, ↓Cq_isN, ↓Iq_T, ↓Iq_C, ↓Cq_eqi, ↓Cq_nei, ↓Cq_eqs, ↓Cq_nes, ↓Cq_eqb, ↓Cq_neb, ↓Cq_lti, ↓Cq_lei, ↓Cq_gti, ↓Cq_gei, ↓Cq_isb, ↓Cq_isnb, ↓Cq_lts, ↓Cq_inn1, ↓Cq_nin1, ↓v_0, ↓n_0, ↓g_0, ↓t_0, ↓v_1, ↓n_1, ↓g_1, ↓t_1, ↓v_2, ↓n_2, ↓g_2, ↓t_2, ↓v_3, ↓n_3, ↓g_3, ↓t_3, ↓v_4, ↓n_4, ↓g_4, ↓t_4, ↓v_5, ↓n_5, ↓g_5, ↓t_5, ↓v_6, ↓n_6, ↓g_6, ↓t_6, ↓v_7, ↓n_7, ↓g_7, ↓t_7, ↓v_8, ↓n_8, ↓g_8, ↓t_8, ↓v_9, ↓n_9, ↓g_9, ↓t_9, ↓v_10, ↓n_10, ↓g_10, ↓t_10, ↓v_11, ↓n_11, ↓g_11, ↓t_11, ↓v_12, ↓n_12, ↓g_12, ↓t_12, ↓v_13, ↓n_13, ↓g_13, ↓t_13, Iq_R, Br_t, Br_f, Br_n, Tq_bl, Tq_int, Tq_tup, Tq_rol, Tq_non, Gq_s, Yq_non, Yq_bl, Yq_int, Yq_str, Yq_tup, Yq_rol, Cq_isnn, Cq_isN, Iq_T, Iq_C, Cq_eqi, Cq_nei, Cq_eqs, Cq_nes, Cq_eqb, Cq_neb, Cq_lti, Cq_lei, Cq_gti, Cq_gei, Cq_isb, Cq_isnb, Cq_lts, Cq_inn1, Cq_nin1, e_neg, eo_ex, i_rng, i_rng2, y_aug, at_0, at_1, at_2, at_3, cxF_T, cxF_call, Bool.not_true, Bool.not_false, Bool.false_eq_true, if_true, if_false, tyB, PV.int.injEq, exists_eq_left, exists_eq_left', List.isEmpty_nil, List.isEmpty_cons, List.length_cons, List.length_nil, List.map_cons, List.map_nil, Option.map_some, startEnv, List.replicate, List.cons_append, List.nil_append, PV.int.injEq, ↓cG, ↓e_ddis, ↓y_afld, ↓y_atup, ↓t_tup, ↓ts_nil, ↓ts_cons, ↓e_dget1, ↓e_dget2, ↓e_dset, ↓e_lzip, ↓e_rev, ↓i_enum, ↓y_augs, ↓y_try, ↓y_rai, ↓h_nil, ↓h_ret, ↓h_isi, ↓e_ddist, ↓e_kdi, ↓e_lrng, ↓i_zip, ↓i_rvd, ↓y_del, ↓e_negU, ↓y_augf, ↓v_14, ↓n_14, ↓g_14, ↓t_14, ↓v_15, ↓n_15, ↓g_15, ↓t_15, ↓v_16, ↓n_16, ↓g_16, ↓t_16, ↓v_17, ↓n_17, ↓g_17, ↓t_17, ↓v_18, ↓n_18, ↓g_18, ↓t_18, ↓v_19, ↓n_19, ↓g_19, ↓t_19, ↓v_20, ↓n_20, ↓g_20, ↓t_20, ↓v_21, ↓n_21, ↓g_21, ↓t_21, ↓v_22, ↓n_22, ↓g_22, ↓t_22, ↓v_23, ↓n_23, ↓g_23, ↓t_23, u_intB, o_muli, o_modi, o_fdivi, cG, k_ix, ixO_L, ixO_D, ixO_F, k_sx, k_sf, k_fld, k_tr, k_ty, k_in, k_nin, k_int_i, k_int_s, k_int_b, k_int_n, k_nint, k_inr, k_ninr, k_len, k_tuple, k_list, k_sorted, k_min, k_q, k_lens, k_add, k_mul, k_slc, k_mth, mqO_L, lm_app, lm_ext, lm_pop, k_app, k_extT, k_extL, k_pop, k_isd, k_dget, k_dset, k_lzip, k_revT, k_revL, k_enT, k_enL, o_subb, k_ltT, k_gtT, k_ltL, k_lrng, k_zip, Uq_i, t_tupL, lm_idx, k_idx, k_del, k_mthS, sm_join, sm_sw, sm_low, k_join, k_sw, u_strS, k_pop0, nJ_nx, nJ_rt, nJ_bk, nJ_ct, inL_t, inL_i, inL_s, inL_b, inL_n, wipe_1, wipe_nil, app_0, app_k, sapp_0, sapp_k, List.getElem?_cons_zero, List.getElem?_cons_succ, List.set_cons_zero, List.set_cons_succ, List.append_assoc, List.length_append, Nat.reduceAdd, glob_MOST_NODES, g_MOST_NODES, *])
local macro_rules | `(tactic| walk_at "b") => `(tactic| first | (refine Br_d (fun h => ?_) (fun h => ?_) <;> walk_at "e") | (refine Br_e (fun h => ?_) (fun h => ?_) <;> walk_at "e") | (refine Br_i (fun h => ?_) (fun h => ?_) <;> walk_at "e"))
local macro_rules | `(tactic| walk_at "k") => `(tactic| first | (refine Br_e (fun h => absurd h (by decide)) (fun _ => ?_)) | (refine Br_d (fun h => absurd h (by decide)) (fun _ => ?_)) | (refine Br_e (fun _ => ?_) (fun h => absurd rfl h)) | (refine Br_d (fun _ => ?_) (fun h => absurd (by decide) h)) | (refine Br_e (fun _ => ?_) (fun h => absurd (by decide) h)) | (refine Br_d (fun h => absurd h (by omega)) (fun _ => ?_)) | (refine Br_d (fun _ => ?_) (fun h => absurd (by omega) h)) | (refine Br_e (fun h => absurd h (by omega)) (fun _ => ?_)) | (refine Br_e (fun _ => ?_) (fun h => absurd (by omega) h)))
section
variable {n : Nat} {S : Store} {P : PV → Store → Prop} {E : Exn → Store → Prop}
theorem parts_spec {nd : Nd} (hP : P (.tup (nd.parts.map pvI)) S) : Wq (callG tab (n + 1) i_parts_of [nd.pv] S) P E := by
  refine Wq_callG tab_parts_of rfl ?_
  simp only [f_parts_of, b_parts_of, startEnv, List.map_cons, List.map_nil, List.length_cons, List.length_nil, List.replicate, List.cons_append, List.nil_append, Nat.reduceAdd, Nat.reduceSub]
  walk_at "e"
  cases nd <;> simp only [Nd.pv] <;> walk_at "e"
  · walk_at "k"; walk_at "e"; exact ⟨by decide, hP⟩
  · walk_at "k"; walk_at "e"; exact ⟨by decide, hP⟩
  · walk_at "k"; walk_at "e"; exact ⟨by decide, hP⟩
  · walk_at "k"; walk_at "e"; exact ⟨by decide, hP⟩
  · walk_at "k"; walk_at "e"; exact hP
theorem head_spec {nd : Nd} (hP : P nd.head S) : Wq (callG tab (n + 1) i_head_of [nd.pv] S) P E := by
  refine Wq_callG tab_head_of rfl ?_
  simp only [f_head_of, b_head_of, startEnv, List.map_cons, List.map_nil, List.length_cons, List.length_nil, List.replicate, List.cons_append, List.nil_append, Nat.reduceAdd, Nat.reduceSub]
  walk_at "e"
  cases nd <;> simp only [Nd.pv] <;> walk_at "e"
  · walk_at "k"; walk_at "e"; exact hP
  · walk_at "k"; walk_at "e"; exact hP
  · walk_at "k"; walk_at "e"; exact hP
  · walk_at "k"; walk_at "e"; exact hP
  · walk_at "k"; walk_at "e"
    refine ⟨by decide, ?_⟩
    simpa [Nd.head] using hP
/-! ### numbered -/
def ixOf (k : PV) : List PV → Option Nat
  | [] => none
  | j :: r => if PV.beq j k then some 0 else (ixOf k r).map (· + 1)
def tabOf (ks : List PV) : List (PV × PV) := ks.zipIdx.map fun q => (q.1, pvI q.2)
theorem dget_zip {k : PV} : ∀ {ks : List PV} {m : Nat}, dget ((ks.zipIdx m).map fun q => (q.1, pvI q.2)) k = (ixOf k ks).map fun i => pvI (i + m)
  | [], _ => rfl
  | j :: r, m => by
    simp only [List.zipIdx_cons, List.map_cons, dget, ixOf]
    split
    · simp
    · rw [dget_zip (ks := r)]
      cases ixOf k r with
      | none => rfl
      | some i => simp only [Option.map_some]; rw [show i + (m + 1) = i + 1 + m by omega]
theorem dget_tab {k : PV} {ks : List PV} : dget (tabOf ks) k = (ixOf k ks).map pvI := dget_zip
theorem tabOf_app {k : PV} {ks : List PV} : tabOf (ks ++ [k]) = tabOf ks ++ [(k, pvI ks.length)] := by
  simp [tabOf, List.zipIdx_append]
theorem tabOf_len {ks : List PV} : (tabOf ks).length = ks.length := by simp [tabOf]
def numStep (st : List PV × List Nat) (k : PV) : List PV × List Nat := match ixOf k st.1 with
  | some i => (st.1, st.2 ++ [i])
  | none => (st.1 ++ [k], st.2 ++ [st.1.length])
def numF (keys : List PV) : List PV × List Nat := keys.foldl numStep ([], [])
def numL (keys : List PV) : List Nat := (numF keys).2
theorem numF_take {keys : List PV} {i : Nat} (h : i < keys.length) : numF (keys.take (i + 1)) = numStep (numF (keys.take i)) keys[i] := by
  simp only [numF]
  rw [List.take_succ_eq_append_getElem h, List.foldl_append]
  rfl
theorem numF_len {keys : List PV} : ∀ {i : Nat}, i ≤ keys.length → (numF (keys.take i)).1.length ≤ i ∧ (numF (keys.take i)).2.length = i
  | 0, _ => ⟨Nat.le_refl _, rfl⟩
  | i + 1, h => by
    obtain ⟨h1, h2⟩ := numF_len (keys := keys) (i := i) (by omega)
    rw [numF_take (by omega)]
    unfold numStep
    split
    · exact ⟨by simp only []; omega, by simp [h2]⟩
    · exact ⟨by simp only [List.length_append, List.length_cons, List.length_nil]; omega, by simp [h2]⟩
theorem numL_len {keys : List PV} : (numL keys).length = keys.length := by
  have := (numF_len (keys := keys) (Nat.le_refl _)).2
  rwa [List.take_length] at this
theorem numbered_spec {p : Nat} {keys : List PV} (hp : S[p]? = some (.lst keys)) (hk : ∀ k ∈ keys, isKey true k = true) (hl : keys.length < 100000) (hP : ∀ S' q, Grow S S' → S'[q]? = some (.lst ((numL keys).map pvI)) → P (.ref q) S') : Wq (callG tab (n + 1) i_numbered [.ref p] S) P E := by
  refine Wq_callG tab_numbered rfl ?_
  simp only [f_numbered, b_numbered, startEnv, List.map_cons, List.map_nil, List.length_cons, List.length_nil, List.replicate, List.cons_append, List.nil_append, Nat.reduceAdd, Nat.reduceSub]
  walk_at "e"
  simp only [app_old hp]
  refine Lcw_I keys.length (fun i acc S' => S' = S ++ [.dic true (tabOf (numF (keys.take i)).1)] ∧ acc = (numF (keys.take i)).2.map pvI) ⟨rfl, rfl⟩ (by show _ < 1000000; omega) (by simp only [nsz]; omega) ?_
  rintro i acc S' ⟨rfl, rfl⟩ hi ha
  refine ⟨fun hlt => ⟨keys[i], by simp [ItV.next, app_old hp, hlt], ?_⟩, fun he => ⟨by simp [ItV.next, app_old hp, he], ?_⟩⟩
  · simp only [wipe_1, List.set_cons_succ, List.set_cons_zero]
    have hln := (numF_len (keys := keys) hi).1
    walk_at "e"
    simp only [tabOf_len, dget_tab]
    refine ⟨⟨hk _ (List.getElem_mem _), by simp only [nsz]; omega⟩, ?_⟩
    rw [numF_take hlt]
    unfold numStep
    cases hx : ixOf keys[i] (numF (keys.take i)).1 with
    | some j => exact ⟨rfl, by simp⟩
    | none =>
      simp only [Option.map_none, List.set_cons_zero]
      refine ⟨?_, by simp [pvI]⟩
      simp only [dput, dget_tab, hx, Option.map_none, tabOf_app]
      rfl
  · subst he
    rw [List.take_length]
    refine hP _ _ ⟨[_, _], by rw [List.append_assoc]; rfl⟩ ?_
    rw [at_push]
    rfl
/-! ### classes -/
theorem dedup_le : ∀ (ns acc : List Int), (ns.foldl (fun acc k => if acc.any (· == k) then acc else acc ++ [k]) acc).length ≤ acc.length + ns.length
  | [], acc => by simp
  | k :: r, acc => by
    rw [List.foldl_cons]
    refine Nat.le_trans (dedup_le r _) ?_
    split <;> simp <;> omega
/-- the number of different ones -/
def nd (K : List Nat) : Nat := (dedupI (K.map Int.ofNat)).length
theorem nd_le (K : List Nat) : nd K ≤ K.length := by
  have := dedup_le (K.map Int.ofNat) []
  simpa [nd, dedupI] using this
def at0 (K : List Nat) (i : Nat) : Nat := K.getD i 0
def keyOf1 (g : List Nd) (K : List Nat) (i : Nat) : PV := .tup (pvI (at0 K i) :: ((g.getD i default).parts.map fun j => pvI (at0 K j)))
def keysL (g : List Nd) (K : List Nat) : List PV := (List.range g.length).map (keyOf1 g K)
def refine1 (g : List Nd) (K : List Nat) : List Nat := numL (keysL g K)
def clsGo (g : List Nd) : Nat → Nat → List Nat → List Nat
  | 0, _, K => K
  | f + 1, c, K => if c < nd K then clsGo g f (nd K) (refine1 g K) else K
def kinds0 (g : List Nd) : List Nat := numL (g.map Nd.head)
def clsL (g : List Nd) : List Nat := clsGo g (g.length + 1) 0 (kinds0 g)
theorem clsGo_len {g : List Nd} : ∀ {f c : Nat} {K : List Nat}, K.length = g.length → (clsGo g f c K).length = g.length
  | 0, _, _, h => h
  | f + 1, c, K, h => by
    unfold clsGo
    split
    · exact clsGo_len (by simp [refine1, numL_len, keysL])
    · exact h
theorem clsL_len {g : List Nd} : (clsL g).length = g.length := clsGo_len (by simp [kinds0, numL_len])
theorem isKey_head (x : Nd) : isKey true x.head = true := by cases x <;> rfl
theorem isKey_keys {g : List Nd} {K : List Nat} : ∀ k ∈ keysL g K, isKey true k = true := by
  intro k hk
  obtain ⟨i, _, rfl⟩ := List.mem_map.mp hk
  simp [keyOf1, isKey, isK, pvI]
theorem at_pv {K : List Nat} {i : Nat} (h : i < K.length) : atI (K.map pvI) (i : Int) = some (pvI (at0 K i)) := by
  rw [at_nat (by omega) (by simpa using h)]
  simp [at0, h]
theorem at_nd {g : List Nd} {i : Nat} (h : i < g.length) : atI (g.map Nd.pv) (i : Int) = some (g.getD i default).pv := by
  rw [at_nat (by omega) (by simpa using h)]
  simp [h]
theorem clsGo_end {g : List Nd} {f c : Nat} {K : List Nat} (h : ¬ c < nd K) : clsGo g f c K = K := by
  cases f with
  | zero => rfl
  | succ f => unfold clsGo; rw [if_neg h]
theorem parts_lt {g : List Nd} (hg : okG g) {i : Nat} (hi : i < g.length) : ((g.getD i default).parts.length ≤ 1000) ∧ ∀ j ∈ (g.getD i default).parts, j < g.length := by
  have : g.getD i default ∈ g := by
    rw [List.getD_eq_getElem?_getD, List.getElem?_eq_getElem hi]
    exact List.getElem_mem _
  exact hg _ this
/-- one turn's keys -/
theorem keys_spec {g : List Nd} {K : List Nat} {q kq : Nat} {S1 : Store} {env : Env} {EX : Exn → Env → Store → Prop} {KK : Fl → Store → Prop} (hg : okG g) (hl : g.length ≤ 950) (hK : K.length = g.length) {c : PV} {e4 e5 e6 : Option PV}
    (henv : env = [some (gpv g), some (.ref q), some c, some (.ref kq), e4, e5, e6]) (h1 : S1[q]? = some (.lst (K.map pvI))) (h2 : S1[kq]? = some (.lst [])) (hq : q ≠ kq) (g1 : Grow S S1) (hkq : S.length ≤ kq)
    (hP : ∀ S' e4 e5 e6, Grow S S' → S'[q]? = some (.lst (K.map pvI)) → S'[kq]? = some (.lst (keysL g K)) → KK (.nx [some (gpv g), some (.ref q), some c, some (.ref kq), e4, e5, e6]) S') :
    Lp (cxF tab (n + 1)) (.tup (.cons (.name 4) (.cons (.name 5) .nil))) (.cons (.ex (.mth (.var 3) z_append (.cons (.bin .add (.tup (.cons (.idx (.var 1) (.var 4)) .nil)) (.bf .tuple (.cons (.lc [6] (.name 6) (.seq (.cal i_parts_of (.cons (.var 5) .nil))) (.con (.bl true)) (.idx (.var 1) (.var 6))) .nil))) .nil))) .nil) (.enT (g.map Nd.pv)) env S1 KK EX := by
  subst henv
  refine Lp_I g.length (fun i ρ S' => ∃ e4 e5 e6, ρ = [some (gpv g), some (.ref q), some c, some (.ref kq), e4, e5, e6] ∧ Grow S S' ∧ S'[q]? = some (.lst (K.map pvI)) ∧ S'[kq]? = some (.lst ((List.range i).map (keyOf1 g K)))) ⟨_, _, _, rfl, g1, h1, h2⟩ (by show _ < 1000000; omega) ?_
  rintro i ρ S2 ⟨e4, e5, e6, rfl, g2, h3, h4⟩ hi
  refine ⟨fun hlt => ⟨.tup [.int i, (g.getD i default).pv], by rw [nx_enT]; simp [hlt], ?_⟩, fun he => ⟨by rw [nx_enT]; simp [he], ?_⟩⟩
  · walk_at "e"
    simp only [h4]
    walk_at "e"
    simp only [h3]
    walk_at "e"
    rw [at_pv (by omega)]
    walk_at "e"
    refine ⟨by decide, ?_⟩
    refine parts_spec ?_
    walk_at "e"
    obtain ⟨p1, p2⟩ := parts_lt hg hlt
    refine lc_ty (g.getD i default).parts pvI (fun j => pvI (at0 K j)) _ nx_seq (by simp [wipe]) (by show _ < 1000000; omega) (by simp only [nsz]; omega) (fun a ha S' g1 => ?_) fun S3 g3 => ?_
    · walk_at "e"
      simp only [pvI]
      walk_at "e"
      simp only [g1.at h3]
      walk_at "e"
      rw [at_pv (by have := p2 a ha; omega)]
      walk_at "e"
      exact ⟨Grow.refl _, rfl⟩
    · walk_at "e"
      rw [o_addt]
      refine ⟨by simp only [List.length_map, List.length_cons, List.length_nil, nsz]; omega, ?_⟩
      walk_at "e"
      have h4' := g3.at h4
      simp only [app_old h4']
      refine ⟨by simp only [List.length_map, List.length_range, nsz]; omega, ?_⟩
      refine ⟨_, _, _, rfl, (g2.trans g3).push'.set hkq, set_ne (app_old (g3.at h3) _) (Ne.symm hq), ?_⟩
      rw [set_at (app_old h4' _), List.range_succ, List.map_append]
      rfl
  · subst he
    walk_at "e"
    exact hP _ _ _ _ g2 h3 h4
/-- the kinds turn by turn -/
def itK (g : List Nd) : Nat → List Nat
  | 0 => kinds0 g
  | k + 1 => refine1 g (itK g k)
theorem classes_spec {g : List Nd} (hg : okG g) (hl : g.length ≤ 950) (hP : nd (clsL g) ≤ 400 → ∀ S' q, Grow S S' → S'[q]? = some (.lst ((clsL g).map pvI)) → P (.ref q) S') (hE : (∃ k, 400 < nd (itK g k)) → ∀ S', Grow S S' → E ⟨c_TooMany, []⟩ S') : Wq (callG tab (n + 2) i_classes [gpv g] S) P E := by
  refine Wq_callG tab_classes rfl ?_
  simp only [f_classes, b_classes, startEnv, List.map_cons, List.map_nil, List.length_cons, List.length_nil, List.replicate, List.cons_append, List.nil_append, Nat.reduceAdd, Nat.reduceSub]
  walk_at "e"
  simp only [gpv]
  walk_at "e"
  refine lc_ty g Nd.pv Nd.head _ nx_seq (by simp [wipe]) (by show _ < 1000000; omega) (by simp only [nsz]; omega) (fun a ha S' g1 => ?_) fun S1 g1 => ?_
  · walk_at "e"
    exact head_spec ⟨Grow.refl _, rfl⟩
  walk_at "e"
  refine numbered_spec (keys := g.map Nd.head) at_push (fun k hk => ?_) (by simp; omega) fun S2 q g2 h2 => ?_
  · obtain ⟨x, _, rfl⟩ := List.mem_map.mp hk
    exact isKey_head x
  walk_at "e"
  have g02 : Grow S S2 := g1.trans (Grow.trans (Grow.push _ _) g2)
  refine W_while (fun ρ S' => ∃ (c : Nat) (K : List Nat) (q : Nat) (f : Nat) (e3 e4 e5 e6 : Option PV), ρ = [some (gpv g), some (.ref q), some (.int c), e3, e4, e5, e6] ∧ Grow S S' ∧ S'[q]? = some (.lst (K.map pvI)) ∧ K.length = g.length ∧ clsGo g f c K = clsL g ∧ g.length + 1 ≤ f + c ∧ (∃ k, K = itK g k) ∧ c ≤ 400)
    (fun ρ _ => match ρ with
      | [_, _, some (.int c), _, _, _, _] => 1000 - c.toNat
      | _ => 0) ⟨0, kinds0 g, q, g.length + 1, _, _, _, _, rfl, g02, h2, by simp [kinds0, numL_len], rfl, by omega, ⟨0, rfl⟩, by omega⟩ (by show 1000 - 0 < 1000000; omega) ?_
  rintro ρ S3 ⟨c, K, q, f, e3, e4, e5, e6, rfl, g3, h3, hK, hc, hf, ⟨kk, hkk⟩, hc4⟩
  have hnd := nd_le K
  unfold Wt
  walk_at "e"
  simp only [h3, intsOf_nat]
  refine ⟨by simp only [List.length_map]; omega, ?_⟩
  walk_at "e"
  refine ⟨_, rfl, ?_⟩
  by_cases hlt : c < nd K
  · have e1 : decide ((c : Int) < ((dedupI (K.map Int.ofNat)).length : Int)) = true := by
      show decide ((c : Int) < (nd K : Int)) = true
      simpa using hlt
    rw [e1]
    walk_at "e"
    refine ⟨by simp only [List.length_map]; omega, ?_⟩
    walk_at "e"
    refine Br_d (fun h => ?_) (fun h => ?_)
    · have h : (400 : Int) < (nd K : Int) := h
      walk_at "e"
      exact hE ⟨kk, by rw [← hkk]; omega⟩ _ g3
    · have h : ¬ (400 : Int) < (nd K : Int) := h
      walk_at "e"
      refine ⟨by decide, ?_⟩
      refine keys_spec (S := S) (K := K) (kq := S3.length) hg hl hK rfl (app_old h3 _) at_push (by have := lt_at h3; omega) g3.push' g3.len fun S4 e4 e5 e6 g4 h4 h5 => ?_
      walk_at "e"
      refine numbered_spec (keys := keysL g K) h5 isKey_keys (by simp [keysL]; omega) fun S5 q5 g5 h6 => ?_
      walk_at "e"
      cases f with
      | zero => omega
      | succ f =>
        unfold clsGo at hc
        rw [if_pos hlt] at hc
        refine ⟨⟨nd K, refine1 g K, q5, f, _, _, _, _, rfl, g4.trans g5, h6, by simp [refine1, numL_len, keysL], hc, by omega, ⟨kk + 1, by rw [hkk]; rfl⟩, by omega⟩, ?_⟩
        show 1000 - Int.toNat _ < 1000 - Int.toNat _
        have : (dedupI (K.map Int.ofNat)).length = nd K := rfl
        omega
  · have e1 : decide ((c : Int) < ((dedupI (K.map Int.ofNat)).length : Int)) = false := by
      show decide ((c : Int) < (nd K : Int)) = false
      simpa using hlt
    rw [e1]
    walk_at "e"
    have hKc : K = clsL g := by rw [← hc, clsGo_end hlt]
    refine hP (by rw [← hKc]; omega) _ _ g3 ?_
    rw [h3, hKc]
/-! ### least -/
def kd (K : List Nat) (i : Nat) : PV := pvI (at0 K i)
def ordOf (K : List Nat) (fs : List Nat) (i : Nat) : Option Nat := ixOf (kd K i) (fs.map (kd K))
def ptsOf (g : List Nd) (i : Nat) : List Nat := (g.getD i default).parts
def dfsGo (g : List Nd) (K : List Nat) : Nat → List Nat → List Nat → List Nat
  | 0, fs, _ => fs
  | _ + 1, fs, [] => fs
  | f + 1, fs, a :: r => if (ordOf K fs a).isSome then dfsGo g K f fs r else dfsGo g K f (fs ++ [a]) (ptsOf g a ++ r)
def firstsL (g : List Nd) : List Nat := dfsGo g (clsL g) (1001 * g.length + 2) [] [0]
def relab (g : List Nd) (K fs : List Nat) (i : Nat) : Nd := match g.getD i default with
  | .tup a ps => .tup a (ps.map fun j => (ordOf K fs j).getD 0)
  | x => x
def leastL (g : List Nd) : List Nd := (firstsL g).map (relab g (clsL g) (firstsL g))
/-- the nodes whose kind is not there yet -/
def unm (g : List Nd) (K fs : List Nat) : Nat := (List.range g.length).countP fun i => (ordOf K fs i).isNone
theorem ixOf_app {k j : PV} : ∀ {l : List PV}, ixOf k (l ++ [j]) = match ixOf k l with
    | some i => some i
    | none => if PV.beq j k then some l.length else none
  | [] => by
    show (if PV.beq j k then some 0 else (none : Option Nat).map (· + 1)) = _
    split <;> simp [ixOf, *]
  | x :: l => by
    simp only [List.cons_append, ixOf]
    split
    · rfl
    · rw [ixOf_app (l := l)]
      cases ixOf k l with
      | some i => rfl
      | none =>
        simp only [Option.map_none]
        split
        · simp
        · rfl
theorem beq_self (x : PV) : PV.beq x x = true := PV.beq_iff.mpr rfl
theorem ord_self {K fs : List Nat} {a : Nat} : (ordOf K (fs ++ [a]) a).isSome = true := by
  unfold ordOf
  rw [List.map_append]
  show (ixOf _ (_ ++ [kd K a])).isSome = true
  rw [ixOf_app]
  split
  · rfl
  · rw [beq_self]
    rfl
theorem ord_mono {K fs : List Nat} {a i : Nat} (h : (ordOf K fs i).isSome = true) : (ordOf K (fs ++ [a]) i).isSome = true := by
  unfold ordOf at h ⊢
  rw [List.map_append]
  show (ixOf _ (_ ++ [kd K a])).isSome = true
  rw [ixOf_app]
  split
  · rfl
  · rename_i e
    rw [e] at h
    cases h
theorem countP_lt {α : Type} {p q : α → Bool} {a : α} : ∀ {l : List α}, (∀ x ∈ l, q x = true → p x = true) → a ∈ l → p a = true → q a = false → l.countP q < l.countP p
  | [], _, h, _, _ => by cases h
  | x :: l, hpq, h, h1, h2 => by
    have le : l.countP q ≤ l.countP p := List.countP_mono_left fun y hy => hpq y (List.mem_cons_of_mem _ hy)
    rw [List.countP_cons, List.countP_cons]
    rcases List.mem_cons.mp h with rfl | h
    · rw [h1, h2]
      simp
      omega
    · have ih := countP_lt (fun y hy => hpq y (List.mem_cons_of_mem _ hy)) h h1 h2
      cases hq : q x with
      | false => simp; omega
      | true =>
        rw [hpq x List.mem_cons_self hq]
        simp
        omega
theorem unm_lt {g : List Nd} {K fs : List Nat} {a : Nat} (ha : a < g.length) (h : (ordOf K fs a).isSome = false) : unm g K (fs ++ [a]) < unm g K fs := by
  refine countP_lt (a := a) (fun x _ hx => ?_) (List.mem_range.mpr ha) (by simpa using h) (by simpa using ord_self)
  cases hq : (ordOf K fs x).isSome with
  | true =>
    have := ord_mono (a := a) hq
    rw [Option.isSome_iff_ne_none] at this
    rw [Option.isNone_iff_eq_none] at hx
    exact absurd hx this
  | false => simpa using hq
theorem ord_lt {K fs : List Nat} {i j : Nat} (h : ordOf K fs i = some j) : j < fs.length := by
  have : ∀ (l : List PV) (k : PV) (j : Nat), ixOf k l = some j → j < l.length := by
    intro l
    induction l with
    | nil => intro k j h; cases h
    | cons x l ih =>
      intro k j h
      unfold ixOf at h
      split at h
      · cases h; simp
      · cases hx : ixOf k l with
        | none => rw [hx] at h; cases h
        | some m =>
          rw [hx] at h
          cases h
          have := ih k m hx
          simp
          omega
  simpa using this _ _ _ h
theorem dget_ord {K fs : List Nat} {i : Nat} : dget (tabOf (fs.map (kd K))) (kd K i) = (ordOf K fs i).map pvI := dget_tab
theorem lookK {K : List Nat} {i : Nat} (h : i < K.length) : atI (K.map pvI) (i : Int) = some (kd K i) := at_pv h
theorem least_specX {g : List Nd} (hg : okG g) (h0 : 0 < g.length) (hl : g.length ≤ 950) (hP : nd (clsL g) ≤ 400 → ∀ S', Grow S S' → P (gpv (leastL g)) S') (hE : (∃ k, 400 < nd (itK g k)) → ∀ S', Grow S S' → E ⟨c_TooMany, []⟩ S') : Wq (callG tab (n + 3) i_least [gpv g] S) P E := by
  refine Wq_callG tab_least rfl ?_
  simp only [f_least, b_least, startEnv, List.map_cons, List.map_nil, List.length_cons, List.length_nil, List.replicate, List.cons_append, List.nil_append, Nat.reduceAdd, Nat.reduceSub]
  walk_at "e"
  refine classes_spec hg hl (fun hn4 S1 q g1 h1 => ?_) hE
  have hP := hP hn4
  have hK := clsL_len (g := g)
  walk_at "e"
  generalize hKe : clsL g = K at h1 hK
  have hfst : firstsL g = dfsGo g K (1001 * g.length + 2) [] [0] := by rw [← hKe]; rfl
  -- the walk
  refine ⟨by decide, by decide, ?_⟩
  refine W_whN (fun m ρ S' => ∃ (fs w : List Nat) (e5 : Option PV), ρ = [some (gpv g), some (.ref q), some (.ref S1.length), some (.ref (S1.length + 1)), some (.ref (S1.length + 2)), e5, none, none, none] ∧ Grow S S' ∧ S'[q]? = some (.lst (K.map pvI)) ∧
      S'[S1.length]? = some (.dic false (tabOf (fs.map (kd K)))) ∧ S'[S1.length + 1]? = some (.lst (fs.map pvI)) ∧ S'[S1.length + 2]? = some (.lst (w.reverse.map pvI)) ∧ m = w.length + 1001 * unm g K fs ∧
      (∃ f, m < f ∧ dfsGo g K f fs w = firstsL g) ∧ (∀ a ∈ fs, a < g.length) ∧ (∀ a ∈ w, a < g.length) ∧ (∀ a ∈ fs, ∀ j ∈ ptsOf g a, (ordOf K fs j).isSome = true ∨ j ∈ w) ∧ ((ordOf K fs 0).isSome = true ∨ 0 ∈ w) ∧ fs.length + unm g K fs ≤ g.length ∧ w.length ≤ 1 + 1000 * fs.length) (1 + 1001 * unm g K []) ?_ ?_ ?_
  · have hu : unm g K [] ≤ g.length := by
      have := List.countP_le_length (p := fun i => (ordOf K [] i).isNone) (l := List.range g.length)
      simpa [unm] using this
    have he : unm g K [] = g.length := by
      exact (List.countP_eq_length.mpr fun a _ => rfl).trans List.length_range
    refine ⟨[], [0], none, rfl, g1.push', app_old h1 _, ?_, ?_, ?_, rfl, ?_, by simp, by simpa using h0, by simp, by simp, by simp; exact hu, by simp⟩
    · rw [app_0]; rfl
    · rw [app_k]; rfl
    · rw [app_k]; rfl
    · exact ⟨1001 * g.length + 2, by omega, hfst.symm⟩
  · have hu : unm g K [] ≤ g.length := by
      have := List.countP_le_length (p := fun i => (ordOf K [] i).isNone) (l := List.range g.length)
      simpa [unm] using this
    show _ < 1000000
    omega
  · rintro m ρ S2 ⟨fs, w, e5, rfl, g2, k1, k2, k3, k4, rfl, ⟨f, hf, hd⟩, hfl, hwl, hcl, hrt, hfn, hwn⟩
    walk_at "e"
    simp only [k4]
    walk_at "e"
    refine Br_i (fun hw => ?_) (fun hw => ?_)
    · -- the end
      have hw : w = [] := by
        cases w with
        | nil => rfl
        | cons a r => simp at hw
      subst hw
      have hfs : fs = firstsL g := by
        obtain ⟨f', rfl⟩ : ∃ f', f = f' + 1 := ⟨f - 1, by omega⟩
        unfold dfsGo at hd
        exact hd
      have hall : ∀ a ∈ fs, ∀ j ∈ ptsOf g a, (ordOf K fs j).isSome = true := fun a ha j hj => (hcl a ha j hj).resolve_right (by simp)
      have q1 : q < S1.length := lt_at h1
      walk_at "e"
      refine ⟨by decide, ?_⟩
      simp only [app_old k3]
      have b1 := lt_at k4
      refine Lp_X (fs.map pvI) (fun i ρ S' => ∃ e5 e7 e8, ρ = [some (gpv g), some (.ref q), some (.ref S1.length), some (.ref (S1.length + 1)), some (.ref (S1.length + 2)), e5, some (.ref S2.length), e7, e8] ∧ Grow S S' ∧ S'[q]? = some (.lst (K.map pvI)) ∧
        S'[S1.length]? = some (.dic false (tabOf (fs.map (kd K)))) ∧ S'[S1.length + 1]? = some (.lst (fs.map pvI)) ∧ S'[S2.length]? = some (.lst ((fs.take i).map fun a => (relab g K fs a).pv)))
        ⟨_, _, _, rfl, g2.push', app_old k1 _, app_old k2 _, app_old k3 _, at_push⟩ (by show _ < 1000000; simp only [List.length_map]; omega) ?_ ?_ ?_
      · rintro i ρ S3 ⟨e5, e7, e8, rfl, g3, j1, j2, j3, j4⟩
        exact nx_ref j3
      · rintro i hi ρ S3 ⟨e5, e7, e8, rfl, g3, j1, j2, j3, j4⟩
        have hi' : i < fs.length := by simpa using hi
        have ha := hfl fs[i] (List.getElem_mem _)
        have hap := hall fs[i] (List.getElem_mem _)
        have hfin : ∀ (S4 : Store) (x : PV) (e5 e7 e8 : Option PV), x = (relab g K fs fs[i]).pv → Grow S S4 → S4[q]? = some (.lst (K.map pvI)) → S4[S1.length]? = some (.dic false (tabOf (fs.map (kd K)))) → S4[S1.length + 1]? = some (.lst (fs.map pvI)) → S4[S2.length]? = some (.lst ((fs.take i).map fun a => (relab g K fs a).pv)) →
            (∃ e5' e7' e8', [some (gpv g), some (.ref q), some (.ref S1.length), some (.ref (S1.length + 1)), some (.ref (S1.length + 2)), e5, some (.ref S2.length), e7, e8] = [some (gpv g), some (.ref q), some (.ref S1.length), some (.ref (S1.length + 1)), some (.ref (S1.length + 2)), e5', some (.ref S2.length), e7', e8'] ∧
              Grow S (S4.set S2.length (.lst (((fs.take i).map fun a => (relab g K fs a).pv) ++ [x]))) ∧ (S4.set S2.length (.lst (((fs.take i).map fun a => (relab g K fs a).pv) ++ [x])))[q]? = some (.lst (K.map pvI)) ∧
              (S4.set S2.length (.lst (((fs.take i).map fun a => (relab g K fs a).pv) ++ [x])))[S1.length]? = some (.dic false (tabOf (fs.map (kd K)))) ∧ (S4.set S2.length (.lst (((fs.take i).map fun a => (relab g K fs a).pv) ++ [x])))[S1.length + 1]? = some (.lst (fs.map pvI)) ∧
              (S4.set S2.length (.lst (((fs.take i).map fun a => (relab g K fs a).pv) ++ [x])))[S2.length]? = some (.lst ((fs.take (i + 1)).map fun a => (relab g K fs a).pv))) := by
          rintro S4 x e5 e7 e8 rfl f0 f1 f2 f3 f4
          refine ⟨_, _, _, rfl, f0.set (by have := g2.len; omega), set_ne f1 (by omega), set_ne f2 (by omega), set_ne f3 (by omega), ?_⟩
          rw [set_at f4, List.take_succ_eq_append_getElem hi', List.map_append]
          rfl
        have hx : (fs.map pvI)[i] = .int (fs[i] : Nat) := by simp [pvI]
        rw [hx]
        walk_at "e"
        simp only [gpv]
        walk_at "e"
        rw [at_nd ha]
        walk_at "e"
        have hrel : ∀ x, g.getD fs[i] default = x → relab g K fs fs[i] = (match x with | .tup a ps => .tup a (ps.map fun j => (ordOf K fs j).getD 0) | x => x) := fun x hx => by unfold relab; rw [hx]
        cases hnd : g.getD fs[i] default with
        | tup a ps =>
          simp only [Nd.pv]
          walk_at "e"
          walk_at "k"
          walk_at "e"
          have hps : ∀ j ∈ ps, j < g.length ∧ (ordOf K fs j).isSome = true := fun j hj => by
            have e : ptsOf g fs[i] = ps := by unfold ptsOf; rw [hnd]; rfl
            obtain ⟨_, p2⟩ := parts_lt hg ha
            exact ⟨p2 j (by rw [hnd]; exact hj), hap j (by rw [e]; exact hj)⟩
          have hpl : ps.length ≤ 1000 := by
            have := (parts_lt hg ha).1
            rw [hnd] at this
            exact this
          refine lc_ty ps pvI (fun j => pvI ((ordOf K fs j).getD 0)) _ nx_seq (by simp [wipe]) (by show _ < 1000000; omega) (by simp only [nsz]; omega) (fun j hj S' g' => ?_) fun S4 g4 => ?_
          · walk_at "e"
            simp only [pvI]
            walk_at "e"
            simp only [g'.at j1]
            walk_at "e"
            obtain ⟨p1, p2⟩ := hps j hj
            rw [lookK (by omega)]
            walk_at "e"
            simp only [g'.at j2]
            refine ⟨rfl, ?_⟩
            rw [dget_ord]
            cases ho : ordOf K fs j with
            | none => rw [ho] at p2; cases p2
            | some m =>
              walk_at "e"
              exact ⟨Grow.refl _, rfl⟩
          · walk_at "e"
            refine ⟨by decide, ?_⟩
            have j4' := app_old (g4.at j4) [.lst (ps.map fun j => pvI ((ordOf K fs j).getD 0))]
            simp only [j4']
            walk_at "e"
            simp only [j4']
            refine ⟨by simp only [List.length_map, List.length_take, nsz]; omega, ?_⟩
            refine hfin _ _ _ _ _ ?_ (g3.trans g4).push' (app_old (g4.at j1) _) (app_old (g4.at j2) _) (app_old (g4.at j3) _) j4'
            rw [hrel _ hnd]
            simp [Nd.pv]
        | _ =>
          simp only [Nd.pv]
          walk_at "e"
          walk_at "k"
          walk_at "e"
          simp only [j4]
          walk_at "e"
          simp only [j4]
          refine ⟨by simp only [List.length_map, List.length_take, nsz]; omega, ?_⟩
          refine hfin _ _ _ _ _ ?_ g3 j1 j2 j3 j4
          rw [hrel _ hnd]
          rfl
      · rintro ρ S3 ⟨e5, e7, e8, rfl, g3, j1, j2, j3, j4⟩
        walk_at "e"
        simp only [j4]
        have := hP S3 g3
        simp only [gpv, leastL, hKe, ← hfs, List.map_map] at this
        rw [List.length_map, List.take_length]
        exact this
    · cases w with
      | nil => simp at hw
      | cons a r =>
        simp only [List.reverse_cons, List.map_append, List.map_cons, List.map_nil] at k4 ⊢
        have ha : a < g.length := hwl a List.mem_cons_self
        walk_at "e"
        simp only [k4]
        walk_at "e"
        simp only [k4]
        have e1 : (r.reverse.map pvI ++ [pvI a])[(r.reverse.map pvI ++ [pvI a]).length - 1]? = some (pvI a) := by simp
        rw [e1]
        walk_at "e"
        have q1 : q < S1.length := lt_at h1
        have k2' : ∀ o, (S2.set (S1.length + 2) o)[S1.length]? = some (.dic false (tabOf (fs.map (kd K)))) := fun o => set_ne k2 (by omega)
        have k1' : ∀ o, (S2.set (S1.length + 2) o)[q]? = some (.lst (K.map pvI)) := fun o => set_ne k1 (by omega)
        have k3' : ∀ o, (S2.set (S1.length + 2) o)[S1.length + 1]? = some (.lst (fs.map pvI)) := fun o => set_ne k3 (by omega)
        simp only [k1', pvI]
        walk_at "e"
        rw [lookK (by omega)]
        walk_at "e"
        simp only [k2']
        walk_at "e"
        simp only [dget_ord]
        refine ⟨rfl, ?_⟩
        have k4' : (S2.set (S1.length + 2) (.lst (r.reverse.map pvI ++ [PV.int a]).dropLast))[S1.length + 2]? = some (.lst (r.reverse.map pvI)) := by
          rw [set_at k4, List.dropLast_concat]
        have gs : ∀ o, Grow S (S2.set (S1.length + 2) o) := fun o => g2.set (by have := g1.len; omega)
        simp only [List.length_cons] at hf hwn
        obtain ⟨f, rfl⟩ : ∃ f', f = f' + 1 := ⟨f - 1, by omega⟩
        unfold dfsGo at hd
        refine Br_i (fun hs => ?_) (fun hs => ?_)
        · have hs : (ordOf K fs a).isSome = true := by simpa using hs
          rw [if_pos hs] at hd
          walk_at "e"
          refine ⟨_, ?_, fs, r, _, rfl, gs _, k1' _, k2' _, k3' _, k4', rfl, ⟨f, by omega, hd⟩, hfl, fun x hx => hwl x (List.mem_cons_of_mem _ hx), fun x hx j hj => ?_, ?_, hfn, ?_⟩
          · omega
          · rcases hcl x hx j hj with h | h
            · exact .inl h
            · rcases List.mem_cons.mp h with rfl | h
              · exact .inl hs
              · exact .inr h
          · rcases hrt with h | h
            · exact .inl h
            · rcases List.mem_cons.mp h with rfl | h
              · exact .inl hs
              · exact .inr h
          · omega
        · have hs : (ordOf K fs a).isSome = false := by simpa using hs
          rw [if_neg (by simp [hs])] at hd
          walk_at "e"
          simp only [k3']
          walk_at "e"
          simp only [k1']
          walk_at "e"
          rw [lookK (by omega)]
          walk_at "e"
          simp only [k2']
          refine ⟨⟨rfl, by simp only [tabOf_len, List.length_map, nsz]; omega⟩, ?_⟩
          have hn : ordOf K fs a = none := by
            cases h : ordOf K fs a with
            | none => rfl
            | some _ => rw [h] at hs; cases hs
          have ed : dput (tabOf (fs.map (kd K))) (kd K a) (PV.int ((fs.map pvI).length : Nat)) = tabOf ((fs ++ [a]).map (kd K)) := by
            unfold dput
            rw [dget_ord, hn, List.map_append]
            show tabOf (fs.map (kd K)) ++ _ = tabOf (fs.map (kd K) ++ [kd K a])
            rw [tabOf_app]
            simp [pvI]
          rw [ed]
          have k4'' := k4'
          generalize hS3 : S2.set (S1.length + 2) (.lst (r.reverse.map pvI ++ [PV.int a]).dropLast) = S3 at k4'' ⊢
          have j1 : S3[q]? = some (.lst (K.map pvI)) := hS3 ▸ k1' _
          have j2 : S3[S1.length]? = some (.dic false (tabOf (fs.map (kd K)))) := hS3 ▸ k2' _
          have j3 : S3[S1.length + 1]? = some (.lst (fs.map pvI)) := hS3 ▸ k3' _
          have j0 : Grow S S3 := hS3 ▸ gs _
          have l1 := g1.len
          generalize hS4 : S3.set S1.length (.dic false (tabOf ((fs ++ [a]).map (kd K)))) = S4
          have i1 : S4[q]? = some (.lst (K.map pvI)) := hS4 ▸ set_ne j1 (by omega)
          have i2 : S4[S1.length]? = some (.dic false (tabOf ((fs ++ [a]).map (kd K)))) := hS4 ▸ set_at j2
          have i3 : S4[S1.length + 1]? = some (.lst (fs.map pvI)) := hS4 ▸ set_ne j3 (by omega)
          have i4 : S4[S1.length + 2]? = some (.lst (r.reverse.map pvI)) := hS4 ▸ set_ne k4'' (by omega)
          have i0 : Grow S S4 := hS4 ▸ j0.set l1
          simp only [i3]
          walk_at "e"
          simp only [i3]
          refine ⟨by simp only [List.length_map, nsz]; omega, ?_⟩
          generalize hS5 : S4.set (S1.length + 1) (.lst (fs.map pvI ++ [PV.int a])) = S5
          have m1 : S5[q]? = some (.lst (K.map pvI)) := hS5 ▸ set_ne i1 (by omega)
          have m2 : S5[S1.length]? = some (.dic false (tabOf ((fs ++ [a]).map (kd K)))) := hS5 ▸ set_ne i2 (by omega)
          have m3 : S5[S1.length + 1]? = some (.lst ((fs ++ [a]).map pvI)) := hS5 ▸ (by rw [set_at i3, List.map_append]; rfl)
          have m4 : S5[S1.length + 2]? = some (.lst (r.reverse.map pvI)) := hS5 ▸ set_ne i4 (by omega)
          have m0 : Grow S S5 := hS5 ▸ i0.set (by omega)
          simp only [m4]
          walk_at "e"
          simp only [gpv]
          walk_at "e"
          rw [at_nd ha]
          walk_at "e"
          refine parts_spec ?_
          walk_at "e"
          simp only [m4]
          obtain ⟨pl1, pl2⟩ := parts_lt hg ha
          refine ⟨by simp only [List.length_map, List.length_reverse, nsz]; omega, ?_⟩
          refine ⟨_, ?_, fs ++ [a], ptsOf g a ++ r, _, rfl, m0.set (by omega), set_ne m1 (by omega), set_ne m2 (by omega), set_ne m3 (by omega), ?_, rfl, ?_, fun x hx => ?_, fun x hx => ?_, fun x hx j hj => ?_, ?_, ?_, ?_⟩
          · have := unm_lt ha hs
            simp only [List.length_append]
            have : (ptsOf g a).length ≤ 1000 := pl1
            omega
          · rw [set_at m4]
            simp [ptsOf]
          · have := unm_lt ha hs
            have : (ptsOf g a).length ≤ 1000 := pl1
            exact ⟨f, by simp only [List.length_append]; omega, hd⟩
          · rcases List.mem_append.mp hx with h | h
            · exact hfl x h
            · rw [List.mem_singleton.mp h]; exact ha
          · rcases List.mem_append.mp hx with h | h
            · exact pl2 x h
            · exact hwl x (List.mem_cons_of_mem _ h)
          · rcases List.mem_append.mp hx with h | h
            · rcases hcl x h j hj with h | h
              · exact .inl (ord_mono h)
              · rcases List.mem_cons.mp h with rfl | h
                · exact .inl ord_self
                · exact .inr (List.mem_append_right _ h)
            · rw [List.mem_singleton.mp h] at hj
              exact .inr (List.mem_append_left _ hj)
          · rcases hrt with h | h
            · exact .inl (ord_mono h)
            · rcases List.mem_cons.mp h with rfl | h
              · exact .inl ord_self
              · exact .inr (List.mem_append_right _ h)
          · have := unm_lt ha hs
            simp only [List.length_append, List.length_cons, List.length_nil]
            omega
          · have : (ptsOf g a).length ≤ 1000 := pl1
            simp only [List.length_append, List.length_cons, List.length_nil]
            omega
theorem itK_len {g : List Nd} : ∀ {k : Nat}, (itK g k).length = g.length
  | 0 => by simp [itK, kinds0, numL_len]
  | k + 1 => by simp [itK, refine1, numL_len, keysL]
theorem least_spec {g : List Nd} (hg : okG g) (h0 : 0 < g.length) (hl : g.length ≤ 400) (hP : ∀ S', Grow S S' → P (gpv (leastL g)) S') : Wq (callG tab (n + 3) i_least [gpv g] S) P E :=
  least_specX hg h0 (by omega) (fun _ => hP) fun ⟨k, hk⟩ => by
    have := nd_le (itK g k)
    rw [itK_len] at this
    omega
end
end LD
set_option maxRecDepth 100000
namespace LD
open L3
/-! ### kinds of nodes: equal to a depth -/
/-- equal to a depth -/
def En (g h : List Nd) : Nat → Nat → Nat → Prop
  | 0, _, _ => True
  | m + 1, i, j => (g.getD i default).head = (h.getD j default).head ∧ ∀ (k u v : Nat), (ptsOf g i)[k]? = some u → (ptsOf h j)[k]? = some v → En g h m u v
theorem head_len {x y : Nd} (h : x.head = y.head) : x.parts.length = y.parts.length := by
  cases x <;> cases y <;> simp only [Nd.head, Nd.pv, Nd.parts, PV.tup.injEq, List.cons.injEq, PV.str.injEq, PV.int.injEq] at h ⊢ <;> first
    | rfl
    | exact absurd h.1 (by decide)
    | (have := h.2.2.1; omega)
theorem En_sub {g h : List Nd} : ∀ {m i j : Nat}, En g h (m + 1) i j → En g h m i j
  | 0, _, _, _ => trivial
  | m + 1, i, j, e => ⟨e.1, fun k u v h1 h2 => En_sub (e.2 k u v h1 h2)⟩
theorem En_le {g h : List Nd} {m i j : Nat} : ∀ {p : Nat}, m ≤ p → En g h p i j → En g h m i j
  | 0, h1, e => by have : m = 0 := by omega
                   subst this; exact e
  | p + 1, h1, e => by
    by_cases z : m = p + 1
    · subst z; exact e
    · exact En_le (p := p) (by omega) (En_sub e)
theorem ixOf_sound {k : PV} : ∀ {l : List PV} {i : Nat}, ixOf k l = some i → l[i]? = some k
  | [], _, h => by cases h
  | j :: r, i, h => by
    unfold ixOf at h
    split at h
    · rename_i e
      cases h
      rw [PV.beq_iff.mp e]
      rfl
    · cases hx : ixOf k r with
      | none => rw [hx] at h; cases h
      | some m =>
        rw [hx] at h
        cases h
        simpa using ixOf_sound hx
theorem ixOf_not {k : PV} : ∀ {l : List PV}, ixOf k l = none → k ∉ l
  | [], _ => by simp
  | j :: r, h => by
    unfold ixOf at h
    split at h
    · cases h
    · rename_i e
      have hx : ixOf k r = none := by
        cases hx : ixOf k r with
        | none => rfl
        | some m => rw [hx] at h; cases h
      intro hm
      rcases List.mem_cons.mp hm with rfl | hm
      · exact e (PV.beq_iff.mpr rfl)
      · exact ixOf_not hx hm
/-- the table's keys differ, the numbers point at them -/
structure NF (keys T : List PV) (ns : List Nat) : Prop where
  nd : T.Nodup
  len : ns.length = keys.length
  at_ : ∀ i, i < keys.length → T[at0 ns i]? = keys[i]?
  sub : ∀ k ∈ T, k ∈ keys
theorem numF_NF {keys : List PV} : ∀ {t : Nat}, t ≤ keys.length → NF (keys.take t) (numF (keys.take t)).1 (numF (keys.take t)).2
  | 0, _ => ⟨by simp [numF], by simp [numF], by simp, by simp [numF]⟩
  | t + 1, h => by
    have ih := numF_NF (keys := keys) (t := t) (by omega)
    have hlt : t < keys.length := by omega
    rw [numF_take hlt]
    have htk := List.take_succ_eq_append_getElem hlt
    have htl : (keys.take t).length = t := by rw [List.length_take]; omega
    generalize numF (keys.take t) = F at *
    obtain ⟨T, ns⟩ := F
    have hnl : ns.length = t := by rw [ih.len, htl]
    unfold numStep
    simp only
    rw [htk]
    have old : ∀ (T' : List PV) (x : Nat), (∀ (k : Nat), k < T.length → T'[k]? = T[k]?) → ∀ i, i < t → T'[at0 (ns ++ [x]) i]? = (keys.take t ++ [keys[t]])[i]? := fun T' x hT i hi => by
      have e1 := ih.at_ i (by rw [htl]; exact hi)
      have hi2 : i < (keys.take t).length := by rw [htl]; exact hi
      rw [List.getElem?_append_left hi2, ← e1]
      have e2 : at0 (ns ++ [x]) i = at0 ns i := by simp [at0, List.getElem?_append_left (show i < ns.length by omega)]
      rw [e2]
      refine hT _ ?_
      rw [List.getElem?_eq_getElem hi2] at e1
      exact (List.getElem?_eq_some_iff.mp e1).1
    have new : ∀ x, at0 (ns ++ [x]) t = x := fun x => by
      unfold at0
      rw [List.getD_eq_getElem?_getD, ← hnl, List.getElem?_concat_length]
      rfl
    have lst : (keys.take t ++ [keys[t]])[t]? = some keys[t] := by
      have := List.getElem?_concat_length (l := keys.take t) (a := keys[t])
      rwa [htl] at this
    split
    · rename_i i hx
      refine ⟨ih.nd, by rw [List.length_append, List.length_append, hnl, htl]; rfl, fun j hj => ?_, fun k hk => List.mem_append_left _ (ih.sub k hk)⟩
      rw [List.length_append, htl, List.length_singleton] at hj
      by_cases z : j < t
      · exact old T i (fun _ _ => rfl) j z
      · have : j = t := by omega
        subst this
        rw [new, lst]
        exact ixOf_sound hx
    · rename_i hx
      refine ⟨?_, by rw [List.length_append, List.length_append, hnl, htl]; rfl, fun j hj => ?_, fun k hk => ?_⟩
      · rw [List.nodup_append]
        refine ⟨ih.nd, by simp, fun a ha b hb => ?_⟩
        rw [List.mem_singleton.mp hb]
        rintro rfl
        exact ixOf_not hx ha
      · rw [List.length_append, htl, List.length_singleton] at hj
        by_cases z : j < t
        · exact old (T ++ [keys[t]]) T.length (fun k hk => List.getElem?_append_left hk) j z
        · have : j = t := by omega
          subst this
          rw [new, lst, List.getElem?_concat_length]
      · rcases List.mem_append.mp hk with hk | hk
        · exact List.mem_append_left _ (ih.sub k hk)
        · rw [List.mem_singleton.mp hk]
          exact List.mem_append_right _ (List.mem_singleton.mpr rfl)
theorem numL_NF (keys : List PV) : NF keys (numF keys).1 (numL keys) := by
  have := numF_NF (keys := keys) (Nat.le_refl _)
  rwa [List.take_length] at this
theorem numL_iff {keys : List PV} {i j : Nat} (hi : i < keys.length) (hj : j < keys.length) : at0 (numL keys) i = at0 (numL keys) j ↔ keys[i]? = keys[j]? := by
  have h := numL_NF keys
  have a := h.at_ i hi
  have b := h.at_ j hj
  constructor
  · intro e
    rw [← a, ← b, e]
  · intro e
    rw [e, List.getElem?_eq_getElem hj] at a
    rw [List.getElem?_eq_getElem hj] at b
    exact (List.getElem_inj h.nd).mp (((List.getElem?_eq_some_iff.mp a).2).trans (List.getElem?_eq_some_iff.mp b).2.symm)
/-! ### counting -/
theorem nodup_sub {α : Type} [DecidableEq α] : ∀ {D X : List α}, D.Nodup → (∀ a ∈ D, a ∈ X) → D.length ≤ X.length
  | [], X, _, _ => by simp
  | a :: D, X, h1, h2 => by
    rw [List.nodup_cons] at h1
    have ha := h2 a List.mem_cons_self
    have := nodup_sub (D := D) (X := X.erase a) h1.2 fun b hb => (List.mem_erase_of_ne (fun z => h1.1 (by rw [← z]; exact hb))).mpr (h2 b (List.mem_cons_of_mem _ hb))
    have l := List.length_erase_of_mem ha
    have hp := List.length_pos_of_mem ha
    simp only [List.length_cons]
    omega
theorem dedup_ok : ∀ (ns acc : List Int), acc.Nodup → (ns.foldl (fun acc k => if acc.any (· == k) then acc else acc ++ [k]) acc).Nodup ∧ ∀ a, a ∈ ns.foldl (fun acc k => if acc.any (· == k) then acc else acc ++ [k]) acc ↔ (a ∈ acc ∨ a ∈ ns)
  | [], acc, h => ⟨h, by simp⟩
  | k :: r, acc, h => by
    rw [List.foldl_cons]
    by_cases hk : k ∈ acc
    · have e : acc.any (· == k) = true := List.any_eq_true.mpr ⟨k, hk, by simp⟩
      rw [if_pos e]
      obtain ⟨h1, h2⟩ := dedup_ok r acc h
      refine ⟨h1, fun a => ?_⟩
      rw [h2, List.mem_cons]
      constructor
      · rintro (h | h)
        · exact .inl h
        · exact .inr (.inr h)
      · rintro (h | rfl | h)
        · exact .inl h
        · exact .inl hk
        · exact .inr h
    · have e : ¬ acc.any (· == k) = true := fun z => by
        obtain ⟨b, hb, e⟩ := List.any_eq_true.mp z
        have e : b = k := by simpa using e
        exact hk (e ▸ hb)
      rw [if_neg e]
      obtain ⟨h1, h2⟩ := dedup_ok r (acc ++ [k]) (by
        rw [List.nodup_append]
        refine ⟨h, by simp, fun a ha b hb => ?_⟩
        rw [List.mem_singleton.mp hb]
        rintro rfl
        exact hk ha)
      refine ⟨h1, fun a => ?_⟩
      rw [h2, List.mem_append, List.mem_singleton, List.mem_cons]
      constructor
      · rintro ((h | h) | h)
        · exact .inl h
        · exact .inr (.inl h)
        · exact .inr (.inr h)
      · rintro (h | h | h)
        · exact .inl (.inl h)
        · exact .inl (.inr h)
        · exact .inr h
/-- the different values -/
def dv (K : List Nat) : List Int := dedupI (K.map Int.ofNat)
theorem dv_nd (K : List Nat) : (dv K).Nodup := (dedup_ok _ [] (by simp)).1
theorem dv_mem {K : List Nat} {a : Int} : a ∈ dv K ↔ ∃ i, i < K.length ∧ a = (at0 K i : Nat) := by
  rw [dv, dedupI, (dedup_ok _ [] (by simp)).2]
  simp only [List.not_mem_nil, false_or, List.mem_map]
  constructor
  · rintro ⟨k, hk, rfl⟩
    obtain ⟨i, hi, e⟩ := List.mem_iff_getElem.mp hk
    exact ⟨i, hi, by simp [at0, hi, e]⟩
  · rintro ⟨i, hi, rfl⟩
    exact ⟨K[i], List.getElem_mem _, by simp [at0, hi]⟩
theorem nd_num (keys : List PV) : nd (numL keys) = (numF keys).1.length := by
  have h := numL_NF keys
  show (dv (numL keys)).length = _
  have hlt : ∀ i, i < keys.length → at0 (numL keys) i < (numF keys).1.length := fun i hi => by
    have := h.at_ i hi
    rw [List.getElem?_eq_getElem hi] at this
    exact (List.getElem?_eq_some_iff.mp this).1
  refine Nat.le_antisymm ?_ ?_
  · have := nodup_sub (X := (List.range (numF keys).1.length).map Int.ofNat) (dv_nd (numL keys)) fun a ha => by
      obtain ⟨i, hi, rfl⟩ := dv_mem.mp ha
      rw [h.len] at hi
      exact List.mem_map.mpr ⟨_, List.mem_range.mpr (hlt i hi), rfl⟩
    simpa using this
  · have hnd : ((List.range (numF keys).1.length).map Int.ofNat).Nodup := by
      rw [List.Nodup, List.pairwise_map]
      exact List.Pairwise.imp (fun h e => h (Int.ofNat.inj e)) List.nodup_range
    have := nodup_sub (X := dv (numL keys)) hnd fun a ha => by
      obtain ⟨k, hk, rfl⟩ := List.mem_map.mp ha
      have hk := List.mem_range.mp hk
      have hm := h.sub _ (List.getElem_mem hk)
      obtain ⟨i, hi, e⟩ := List.mem_iff_getElem.mp hm
      refine dv_mem.mpr ⟨i, by rw [h.len]; exact hi, ?_⟩
      have a := h.at_ i hi
      rw [List.getElem?_eq_getElem hi, e] at a
      have := (List.getElem_inj h.nd).mp (List.getElem?_eq_some_iff.mp a).2
      rw [this]
      rfl
    simpa using this
theorem nd_pos {K : List Nat} (h : 0 < K.length) : 0 < nd K := by
  show 0 < (dv K).length
  exact List.length_pos_of_mem (dv_mem.mpr ⟨0, h, rfl⟩)
theorem refines {K K' : List Nat} {n : Nat} (hK : K.length = n) (hK' : K'.length = n) (h : ∀ i j, i < n → j < n → at0 K' i = at0 K' j → at0 K i = at0 K j) (hn : nd K' ≤ nd K) {i j : Nat} (hi : i < n) (hj : j < n) (e : at0 K i = at0 K j) : at0 K' i = at0 K' j := by
  refine Classical.byContradiction fun hne => ?_
  have hn : (dv K').length ≤ (dv K).length := hn
  let φ : Int → Int := fun v => ((at0 K ((List.range n).findIdx fun k => ((at0 K' k : Nat) : Int) == v) : Nat) : Int)
  have hφ : ∀ k, k < n → φ ((at0 K' k : Nat) : Int) = ((at0 K k : Nat) : Int) := fun k hk => by
    have hex : ∃ x ∈ List.range n, (((at0 K' x : Nat) : Int) == ((at0 K' k : Nat) : Int)) = true := ⟨k, List.mem_range.mpr hk, by simp⟩
    have h1 := List.findIdx_lt_length_of_exists hex
    have h2 := List.findIdx_getElem (w := h1)
    rw [List.length_range] at h1
    simp only [List.getElem_range, beq_iff_eq] at h2
    show ((at0 K _ : Nat) : Int) = _
    rw [h _ k h1 hk (by omega)]
  have hmj : ((at0 K' j : Nat) : Int) ∈ dv K' := dv_mem.mpr ⟨j, by omega, rfl⟩
  have hs := nodup_sub (X := ((dv K').erase ((at0 K' j : Nat) : Int)).map φ) (dv_nd K) fun v hv => by
    obtain ⟨k, hk, rfl⟩ := dv_mem.mp hv
    rw [hK] at hk
    by_cases z : at0 K' k = at0 K' j
    · have e2 := h k j hk hj z
      refine List.mem_map.mpr ⟨((at0 K' i : Nat) : Int), (List.mem_erase_of_ne (by omega)).mpr (dv_mem.mpr ⟨i, by omega, rfl⟩), ?_⟩
      rw [hφ i hi, e, e2]
    · exact List.mem_map.mpr ⟨((at0 K' k : Nat) : Int), (List.mem_erase_of_ne (by omega)).mpr (dv_mem.mpr ⟨k, by omega, rfl⟩), hφ k hk⟩
  have l := List.length_erase_of_mem hmj
  have hp := List.length_pos_of_mem hmj
  rw [List.length_map] at hs
  omega
/-! ### kinds to a depth -/
structure Pat (g : List Nd) (K : List Nat) (m : Nat) : Prop where
  len : K.length = g.length
  iff : ∀ i j, i < g.length → j < g.length → (at0 K i = at0 K j ↔ En g g m i j)
/-- kinds for good -/
structure Fin (g : List Nd) (K : List Nat) : Prop where
  len : K.length = g.length
  iff : ∀ i j, i < g.length → j < g.length → (at0 K i = at0 K j ↔ ∀ m, En g g m i j)
theorem map_at0 {K us vs : List Nat} : us.map (fun j => pvI (at0 K j)) = vs.map (fun j => pvI (at0 K j)) ↔ us.length = vs.length ∧ ∀ (k u v : Nat), us[k]? = some u → vs[k]? = some v → at0 K u = at0 K v := by
  constructor
  · intro h
    refine ⟨by simpa using congrArg List.length h, fun k u v h1 h2 => ?_⟩
    have := congrArg (fun l => l[k]?) h
    simp only [List.getElem?_map, h1, h2, Option.map_some, Option.some.injEq, pvI, PV.int.injEq] at this
    omega
  · rintro ⟨hl, h⟩
    refine List.ext_getElem? fun k => ?_
    rw [List.getElem?_map, List.getElem?_map]
    by_cases hk : k < us.length
    · have hk2 : k < vs.length := by omega
      rw [List.getElem?_eq_getElem hk, List.getElem?_eq_getElem hk2]
      simp only [Option.map_some]
      rw [h k us[k] vs[k] (by simp [hk]) (by simp [hk2])]
    · rw [List.getElem?_eq_none (by omega), List.getElem?_eq_none (by omega)]
theorem Pat.parts {g : List Nd} {K : List Nat} {m : Nat} (hg : okG g) (h : Pat g K m) {i j : Nat} (hi : i < g.length) (hj : j < g.length) (hl : (ptsOf g i).length = (ptsOf g j).length) : (ptsOf g i).map (fun j => pvI (at0 K j)) = (ptsOf g j).map (fun j => pvI (at0 K j)) ↔ ∀ (k u v : Nat), (ptsOf g i)[k]? = some u → (ptsOf g j)[k]? = some v → En g g m u v := by
  rw [map_at0]
  constructor
  · rintro ⟨_, h1⟩ k u v hu hv
    exact (h.iff u v ((parts_lt hg hi).2 u (List.mem_of_getElem? hu)) ((parts_lt hg hj).2 v (List.mem_of_getElem? hv))).mp (h1 k u v hu hv)
  · intro h1
    exact ⟨hl, fun k u v hu hv => (h.iff u v ((parts_lt hg hi).2 u (List.mem_of_getElem? hu)) ((parts_lt hg hj).2 v (List.mem_of_getElem? hv))).mpr (h1 k u v hu hv)⟩
theorem keysL_at {g : List Nd} {K : List Nat} {i : Nat} (hi : i < g.length) : (keysL g K)[i]? = some (keyOf1 g K i) := by simp [keysL, hi]
theorem Pat.refine {g : List Nd} {K : List Nat} {m : Nat} (hg : okG g) (h : Pat g K (m + 1)) : Pat g (refine1 g K) (m + 2) where
  len := by simp [refine1, numL_len, keysL]
  iff := fun i j hi hj => by
    rw [refine1, numL_iff (by simpa [keysL] using hi) (by simpa [keysL] using hj), keysL_at hi, keysL_at hj]
    simp only [keyOf1, Option.some.injEq, PV.tup.injEq, List.cons.injEq]
    constructor
    · rintro ⟨e1, e2⟩
      have hE : En g g (m + 1) i j := (h.iff i j hi hj).mp (by simp only [pvI, PV.int.injEq] at e1; omega)
      exact ⟨hE.1, (h.parts hg hi hj (head_len hE.1)).mp e2⟩
    · intro e
      have hE := En_sub e
      refine ⟨by rw [(h.iff i j hi hj).mpr hE], (h.parts hg hi hj (head_len e.1)).mpr e.2⟩
theorem Pat.base {g : List Nd} : Pat g (kinds0 g) 1 where
  len := by simp [kinds0, numL_len]
  iff := fun i j hi hj => by
    rw [kinds0, numL_iff (by simpa using hi) (by simpa using hj)]
    simp only [List.getElem?_map, List.getElem?_eq_getElem hi, List.getElem?_eq_getElem hj, Option.map_some, Option.some.injEq, En, implies_true, and_true]
    simp [hi, hj]
theorem En_stable {g : List Nd} (hg : okG g) {m : Nat} (h : ∀ i j, i < g.length → j < g.length → En g g m i j → En g g (m + 1) i j) : ∀ {p i j : Nat}, i < g.length → j < g.length → En g g m i j → En g g (m + p) i j
  | 0, i, j, _, _, e => e
  | p + 1, i, j, hi, hj, e => by
    have e1 := h i j hi hj e
    refine ⟨e1.1, fun k u v hu hv => ?_⟩
    have := e1.2 k u v hu hv
    exact En_stable hg h (p := p) ((parts_lt hg hi).2 u (List.mem_of_getElem? hu)) ((parts_lt hg hj).2 v (List.mem_of_getElem? hv)) this
theorem Fin.of {g : List Nd} (hg : okG g) {K K' : List Nat} {m : Nat} (h : Pat g K m) (h' : Pat g K' (m + 1)) (hn : nd K' ≤ nd K) : Fin g K' where
  len := h'.len
  iff := fun i j hi hj => by
    have st : ∀ i j, i < g.length → j < g.length → En g g m i j → En g g (m + 1) i j := fun i j hi hj e =>
      (h'.iff i j hi hj).mp (refines h.len h'.len (fun i j hi hj e => (h.iff i j hi hj).mpr (En_sub ((h'.iff i j hi hj).mp e))) hn hi hj ((h.iff i j hi hj).mpr e))
    rw [h'.iff i j hi hj]
    constructor
    · intro e q
      by_cases hq : q ≤ m
      · exact En_le (by omega) e
      · have := En_stable hg st (p := q - m) hi hj (En_sub e)
        rwa [show m + (q - m) = q by omega] at this
    · exact fun e => e _
theorem clsGo_fin {g : List Nd} (hg : okG g) : ∀ {f m : Nat} {K K0 : List Nat}, Pat g K0 m → Pat g K (m + 1) → g.length + 1 ≤ f + nd K0 → Fin g (clsGo g f (nd K0) K)
  | 0, m, K, K0, h0, h1, hf => by
    have := nd_le K0
    have := h0.len
    omega
  | f + 1, m, K, K0, h0, h1, hf => by
    unfold clsGo
    split
    · rename_i hlt
      have hr : Pat g (refine1 g K) (m + 1 + 1) := by
        exact h1.refine hg
      exact clsGo_fin hg h1 hr (by omega)
    · exact Fin.of hg h0 h1 (by omega)
theorem clsL_fin {g : List Nd} (hg : okG g) (h0 : 0 < g.length) : Fin g (clsL g) := by
  unfold clsL clsGo
  have hb := Pat.base (g := g)
  have hp := nd_pos (K := kinds0 g) (by rw [hb.len]; exact h0)
  rw [if_pos hp]
  exact clsGo_fin hg hb (hb.refine hg) (by omega)
end LD
set_option maxRecDepth 100000
namespace LD
open L3
/-! ### the laws' kinds -/
def lkey (g : List Nd) (K : List Nat) (i : Nat) : PV := match g.getD i default with
  | .tup a ps => .tup (.str z_tuple :: .str a :: ps.map fun j => pvI (at0 K j))
  | x => x.pv
def lkeysL (g : List Nd) (K : List Nat) : List PV := (List.range g.length).map (lkey g K)
def lkF (g : List Nd) (K : List Nat) : List Nat := numL (lkeysL g K)
def lkGo (g : List Nd) : Nat → Nat → Nat → List Nat → List Nat
  | 0, _, _, K => K
  | f + 1, b, c, K => if b < c then lkGo g f c (nd (lkF g K)) (lkF g K) else K
def lawK (g : List Nd) : List Nat := lkGo g (g.length + 3) 0 1 (List.replicate g.length 0)
theorem lkF_len {g : List Nd} {K : List Nat} : (lkF g K).length = g.length := by simp [lkF, numL_len, lkeysL]
theorem lkey_iff {g : List Nd} {K : List Nat} {i j : Nat} : lkey g K i = lkey g K j ↔ (g.getD i default).head = (g.getD j default).head ∧ (ptsOf g i).map (fun j => pvI (at0 K j)) = (ptsOf g j).map (fun j => pvI (at0 K j)) := by
  unfold lkey ptsOf
  generalize g.getD i default = x
  generalize g.getD j default = y
  cases x with
  | tup a ps =>
    cases y with
    | tup b qs =>
      simp only [Nd.head, Nd.parts, PV.tup.injEq, List.cons.injEq, PV.str.injEq, true_and, PV.int.injEq, and_true]
      constructor
      · rintro ⟨rfl, h⟩
        exact ⟨⟨rfl, by have := congrArg List.length h; simp only [List.length_map] at this; omega⟩, h⟩
      · rintro ⟨⟨rfl, _⟩, h⟩
        exact ⟨rfl, h⟩
    | _ =>
      simp only [Nd.head, Nd.pv, Nd.parts, PV.tup.injEq, List.cons.injEq, PV.str.injEq]
      constructor
      · rintro ⟨h, _⟩
        exact absurd h (by decide)
      · rintro ⟨⟨h, _⟩, _⟩
        exact absurd h (by decide)
  | _ =>
    cases y with
    | tup b qs =>
      simp only [Nd.head, Nd.pv, Nd.parts, PV.tup.injEq, List.cons.injEq, PV.str.injEq]
      constructor
      · rintro ⟨h, _⟩
        exact absurd h (by decide)
      · rintro ⟨⟨h, _⟩, _⟩
        exact absurd h (by decide)
    | _ => simp [Nd.head, Nd.parts]
theorem Pat.law {g : List Nd} {K : List Nat} {m : Nat} (hg : okG g) (h : Pat g K m) : Pat g (lkF g K) (m + 1) where
  len := lkF_len
  iff := fun i j hi hj => by
    rw [lkF, numL_iff (by simpa [lkeysL] using hi) (by simpa [lkeysL] using hj)]
    have e : ∀ i, i < g.length → (lkeysL g K)[i]? = some (lkey g K i) := fun i hi => by simp [lkeysL, hi]
    rw [e i hi, e j hj, Option.some.injEq, lkey_iff]
    constructor
    · rintro ⟨e1, e2⟩
      exact ⟨e1, (h.parts hg hi hj (head_len e1)).mp e2⟩
    · rintro ⟨e1, e2⟩
      exact ⟨e1, (h.parts hg hi hj (head_len e1)).mpr e2⟩
theorem lkGo_fin {g : List Nd} (hg : okG g) : ∀ {f m : Nat} {K K0 : List Nat}, Pat g K0 m → Pat g K (m + 1) → g.length + 1 ≤ f + nd K0 → Fin g (lkGo g f (nd K0) (nd K) K)
  | 0, m, K, K0, h0, h1, hf => by
    have := nd_le K0
    have := h0.len
    omega
  | f + 1, m, K, K0, h0, h1, hf => by
    unfold lkGo
    split
    · exact lkGo_fin hg h1 (h1.law hg) (by omega)
    · exact Fin.of hg h0 h1 (by omega)
theorem zeros_pat {g : List Nd} : Pat g (List.replicate g.length 0) 0 where
  len := by simp
  iff := fun i j hi hj => by simp [at0, hi, hj, En]
theorem nd_zeros {n : Nat} (h : 0 < n) : nd (List.replicate n 0) = 1 := by
  have h1 := nd_pos (K := List.replicate n 0) (by simpa using h)
  have h2 := nodup_sub (X := [(0 : Int)]) (dv_nd (List.replicate n 0)) fun a ha => by
    obtain ⟨i, hi, rfl⟩ := dv_mem.mp ha
    have hi : i < n := by simpa using hi
    simp [at0, hi]
  have : (dv (List.replicate n 0)).length = nd (List.replicate n 0) := rfl
  simp only [List.length_cons, List.length_nil] at h2
  omega
theorem lawK_fin {g : List Nd} (hg : okG g) (h0 : 0 < g.length) : Fin g (lawK g) := by
  unfold lawK lkGo
  rw [if_pos (by decide)]
  have hz := zeros_pat (g := g)
  have := lkGo_fin hg (f := g.length + 2) hz (hz.law hg) (by omega)
  rwa [nd_zeros h0] at this
/-! ### the walk by depth -/
/-- from the found ones and what waits to the found ones -/
inductive DF (g : List Nd) (K : List Nat) : List Nat → List Nat → List Nat → Prop where
  | nil {fs : List Nat} : DF g K fs [] fs
  | seen {fs r fs' : List Nat} {a : Nat} (h : (ordOf K fs a).isSome = true) (t : DF g K fs r fs') : DF g K fs (a :: r) fs'
  | new {fs r fs' : List Nat} {a : Nat} (h : (ordOf K fs a).isSome = false) (t : DF g K (fs ++ [a]) (ptsOf g a ++ r) fs') : DF g K fs (a :: r) fs'
theorem DF.det {g : List Nd} {K : List Nat} {fs w a b : List Nat} (h1 : DF g K fs w a) (h2 : DF g K fs w b) : a = b := by
  induction h1 with
  | nil => cases h2; rfl
  | seen h t ih =>
    cases h2 with
    | seen h' t' => exact ih t'
    | new h' t' => rw [h] at h'; cases h'
  | new h t ih =>
    cases h2 with
    | seen h' t' => rw [h] at h'; cases h'
    | new h' t' => exact ih t'
theorem DF.app {g : List Nd} {K : List Nat} {fs w fs1 w2 fs2 : List Nat} (h1 : DF g K fs w fs1) (h2 : DF g K fs1 w2 fs2) : DF g K fs (w ++ w2) fs2 := by
  induction h1 with
  | nil => exact h2
  | seen h t ih => exact .seen h (ih h2)
  | new h t ih => exact .new h (by have := ih h2; rwa [List.append_assoc] at this)
theorem DF.go {g : List Nd} {K : List Nat} (hg : okG g) : ∀ {f : Nat} {fs w : List Nat}, w.length + 1001 * unm g K fs < f → (∀ a ∈ w, a < g.length) → DF g K fs w (dfsGo g K f fs w)
  | 0, _, _, h, _ => by omega
  | f + 1, fs, [], _, _ => by unfold dfsGo; exact .nil
  | f + 1, fs, a :: r, h, hw => by
    unfold dfsGo
    have ha := hw a List.mem_cons_self
    have hr : ∀ b ∈ r, b < g.length := fun b hb => hw b (List.mem_cons_of_mem _ hb)
    simp only [List.length_cons] at h
    split
    · rename_i hs
      exact .seen hs (DF.go hg (by omega) hr)
    · rename_i hs
      have hs : (ordOf K fs a).isSome = false := by simpa using hs
      have hu := unm_lt ha hs
      have hp := parts_lt hg ha
      refine .new hs (DF.go hg ?_ fun b hb => ?_)
      · rw [List.length_append]
        have : (ptsOf g a).length ≤ 1000 := hp.1
        omega
      · rcases List.mem_append.mp hb with hb | hb
        · exact hp.2 b hb
        · exact hr b hb
def firstsK (g : List Nd) (K : List Nat) : List Nat := dfsGo g K (1001 * g.length + 2) [] [0]
def leastK (g : List Nd) (K : List Nat) : List Nd := (firstsK g K).map (relab g K (firstsK g K))
theorem leastL_K {g : List Nd} : leastL g = leastK g (clsL g) := rfl
theorem firstsK_DF {g : List Nd} {K : List Nat} (hg : okG g) (h0 : 0 < g.length) : DF g K [] [0] (firstsK g K) := by
  refine DF.go hg ?_ (by simpa using h0)
  have : unm g K [] ≤ g.length := by
    unfold unm
    have := List.countP_le_length (p := fun i => (ordOf K [] i).isNone) (l := List.range g.length)
    simpa using this
  simp only [List.length_cons, List.length_nil]
  omega
/-! ### graphs of one tree -/
/-- nodes of two graphs: where B leads -/
structure Bis (g h : List Nd) (B : Nat → Nat → Prop) : Prop where
  lt : ∀ i j, B i j → i < g.length ∧ j < h.length
  hd : ∀ i j, B i j → (g.getD i default).head = (h.getD j default).head
  pt : ∀ i j, B i j → ∀ (k u v : Nat), (ptsOf g i)[k]? = some u → (ptsOf h j)[k]? = some v → B u v
theorem Bis.len {g h : List Nd} {B : Nat → Nat → Prop} (b : Bis g h B) {i j : Nat} (q : B i j) : (ptsOf g i).length = (ptsOf h j).length := head_len (b.hd i j q)
theorem Bis.En {g h : List Nd} {B : Nat → Nat → Prop} (b : Bis g h B) : ∀ {m i j i2 j2 : Nat}, B i i2 → B j j2 → (En g g m i j ↔ En h h m i2 j2)
  | 0, _, _, _, _, _, _ => ⟨fun _ => trivial, fun _ => trivial⟩
  | m + 1, i, j, i2, j2, q1, q2 => by
    have e1 := b.hd _ _ q1
    have e2 := b.hd _ _ q2
    have l1 := b.len q1
    have l2 := b.len q2
    constructor
    · rintro ⟨h1, h2⟩
      refine ⟨e1.symm.trans (h1.trans e2), fun k u v hu hv => ?_⟩
      have ku := (List.getElem?_eq_some_iff.mp hu).1
      have kv := (List.getElem?_eq_some_iff.mp hv).1
      have hu' : (ptsOf g i)[k]? = some ((ptsOf g i)[k]'(by omega)) := by simp
      have hv' : (ptsOf g j)[k]? = some ((ptsOf g j)[k]'(by omega)) := by simp
      exact (b.En (b.pt _ _ q1 k _ _ hu' hu) (b.pt _ _ q2 k _ _ hv' hv)).mp (h2 k _ _ hu' hv')
    · rintro ⟨h1, h2⟩
      refine ⟨e1.trans (h1.trans e2.symm), fun k u v hu hv => ?_⟩
      have ku := (List.getElem?_eq_some_iff.mp hu).1
      have kv := (List.getElem?_eq_some_iff.mp hv).1
      have hu' : (ptsOf h i2)[k]? = some ((ptsOf h i2)[k]'(by omega)) := by simp
      have hv' : (ptsOf h j2)[k]? = some ((ptsOf h j2)[k]'(by omega)) := by simp
      exact (b.En (b.pt _ _ q1 k _ _ hu hu') (b.pt _ _ q2 k _ _ hv hv')).mpr (h2 k _ _ hu' hv')
theorem ixOf_beq {α : Type} {f f' : α → PV} {k k' : PV} : ∀ {l : List α}, (∀ a ∈ l, f a = k ↔ f' a = k') → ixOf k (l.map f) = ixOf k' (l.map f')
  | [], _ => rfl
  | a :: l, h => by
    simp only [List.map_cons, ixOf]
    have h1 := h a List.mem_cons_self
    have ih := ixOf_beq (l := l) fun b hb => h b (List.mem_cons_of_mem _ hb)
    by_cases e : f a = k
    · rw [if_pos (PV.beq_iff.mpr e), if_pos (PV.beq_iff.mpr (h1.mp e))]
    · rw [if_neg fun z => e (PV.beq_iff.mp z), if_neg fun z => e (h1.mpr (PV.beq_iff.mp z)), ih]
theorem kd_iff {K : List Nat} {a b : Nat} : kd K a = kd K b ↔ at0 K a = at0 K b := by
  simp only [kd, pvI, PV.int.injEq]
  omega
/-- pairs of found ones -/
def Ft (B : Nat → Nat → Prop) (fs : List (Nat × Nat)) : Prop := ∀ q ∈ fs, B q.1 q.2
theorem ord_bis {g h : List Nd} {B : Nat → Nat → Prop} (b : Bis g h B) {K K' : List Nat} (hK : Fin g K) (hK' : Fin h K') {fs : List (Nat × Nat)} (hf : Ft B fs) {i j : Nat} (q : B i j) : ordOf K (fs.map (·.1)) i = ordOf K' (fs.map (·.2)) j := by
  unfold ordOf
  rw [List.map_map, List.map_map]
  refine ixOf_beq fun p hp => ?_
  have hpB := hf p hp
  obtain ⟨l1, l2⟩ := b.lt _ _ hpB
  obtain ⟨l3, l4⟩ := b.lt _ _ q
  simp only [Function.comp_apply]
  rw [kd_iff, kd_iff, hK.iff _ _ l1 l3, hK'.iff _ _ l2 l4]
  exact forall_congr' fun m => b.En hpB q
theorem DF.bis {g h : List Nd} {B : Nat → Nat → Prop} (b : Bis g h B) {K K' : List Nat} (hK : Fin g K) (hK' : Fin h K') {fs w fs' : List Nat} (d : DF g K fs w fs') : ∀ {ps ws : List (Nat × Nat)}, fs = ps.map (·.1) → w = ws.map (·.1) → Ft B ps → Ft B ws → ∃ ps', fs' = ps'.map (·.1) ∧ Ft B ps' ∧ DF h K' (ps.map (·.2)) (ws.map (·.2)) (ps'.map (·.2)) := by
  induction d with
  | nil =>
    intro ps ws e1 e2 h1 h2
    cases ws with
    | nil => exact ⟨ps, e1, h1, .nil⟩
    | cons _ _ => cases e2
  | seen hs t ih =>
    intro ps ws e1 e2 h1 h2
    cases ws with
    | nil => cases e2
    | cons q ws =>
      simp only [List.map_cons, List.cons.injEq] at e2
      obtain ⟨rfl, rfl⟩ := e2
      obtain ⟨ps', a1, a2, a3⟩ := ih e1 rfl h1 fun p hp => h2 p (List.mem_cons_of_mem _ hp)
      refine ⟨ps', a1, a2, .seen ?_ a3⟩
      rw [← ord_bis b hK hK' h1 (h2 q List.mem_cons_self), ← e1]
      exact hs
  | new hs t ih =>
    intro ps ws e1 e2 h1 h2
    cases ws with
    | nil => cases e2
    | cons q ws =>
      simp only [List.map_cons, List.cons.injEq] at e2
      obtain ⟨rfl, rfl⟩ := e2
      have hq := h2 q List.mem_cons_self
      have hl := b.len hq
      have z1 : ((ptsOf g q.1).zip (ptsOf h q.2)).map (·.1) = ptsOf g q.1 := List.map_fst_zip (by omega)
      have z2 : ((ptsOf g q.1).zip (ptsOf h q.2)).map (·.2) = ptsOf h q.2 := List.map_snd_zip (by omega)
      obtain ⟨ps', a1, a2, a3⟩ := ih (ps := ps ++ [q]) (ws := (ptsOf g q.1).zip (ptsOf h q.2) ++ ws) (by rw [e1, List.map_append]; rfl) (by rw [List.map_append, z1]) (fun p hp => by
        rcases List.mem_append.mp hp with hp | hp
        · exact h1 p hp
        · rw [List.mem_singleton.mp hp]
          exact hq) (fun p hp => by
        rcases List.mem_append.mp hp with hp | hp
        · obtain ⟨k, hk, e⟩ := List.mem_iff_getElem.mp hp
          rw [List.getElem_zip] at e
          subst e
          rw [List.length_zip] at hk
          exact b.pt _ _ hq k _ _ (by rw [List.getElem?_eq_getElem]) (by rw [List.getElem?_eq_getElem])
        · exact h2 p (List.mem_cons_of_mem _ hp))
      refine ⟨ps', a1, a2, .new ?_ ?_⟩
      · rw [← ord_bis b hK hK' h1 hq, ← e1]
        exact hs
      · rw [List.map_append, List.map_append, z2] at a3
        exact a3
def relN (f : Nat → Nat) : Nd → Nd
  | .tup a ps => .tup a (ps.map f)
  | x => x
theorem relab_N {g : List Nd} {K fs : List Nat} {i : Nat} : relab g K fs i = relN (fun j => (ordOf K fs j).getD 0) (g.getD i default) := by
  unfold relab
  cases g.getD i default <;> rfl
theorem head_relab {x y : Nd} {f f' : Nat → Nat} (h : x.head = y.head) (hp : x.parts.map f = y.parts.map f') : relN f x = relN f' y := by
  cases x <;> cases y <;> simp only [Nd.head, Nd.pv, Nd.parts, relN, PV.tup.injEq, List.cons.injEq, PV.str.injEq, PV.int.injEq] at h hp ⊢ <;> first
    | exact absurd h.1 (by decide)
    | (rw [h.2.1, hp])
    | (rw [h.2.1, h.2.2.1])
    | (rw [h.2.1])
    | rfl
/-- graphs of one tree have one least graph, by whatever kinds -/
theorem least_bis {g h : List Nd} {B : Nat → Nat → Prop} (b : Bis g h B) (h00 : B 0 0) (hg : okG g) (hh : okG h) {K K' : List Nat} (hK : Fin g K) (hK' : Fin h K') : leastK g K = leastK h K' := by
  obtain ⟨l1, l2⟩ := b.lt _ _ h00
  obtain ⟨ps, e1, hB, d⟩ := (firstsK_DF (K := K) hg l1).bis b hK hK' (ps := []) (ws := [(0, 0)]) rfl rfl (by intro q hq; cases hq) (by intro q hq; rw [List.mem_singleton.mp hq]; exact h00)
  have e2 := (firstsK_DF (K := K') hh l2).det d
  unfold leastK
  rw [e1, e2, List.map_map, List.map_map]
  refine List.map_congr_left fun q hq => ?_
  simp only [Function.comp_apply, relab_N]
  have hq2 := hB q hq
  refine head_relab (b.hd _ _ hq2) ?_
  have hl := b.len hq2
  unfold ptsOf at hl
  refine List.ext_getElem? fun k => ?_
  rw [List.getElem?_map, List.getElem?_map]
  by_cases hk : k < (g.getD q.1 default).parts.length
  · rw [List.getElem?_eq_getElem hk, List.getElem?_eq_getElem (by omega)]
    simp only [Option.map_some]
    rw [ord_bis b hK hK' hB (b.pt _ _ hq2 k _ _ (by unfold ptsOf; rw [List.getElem?_eq_getElem hk]) (by unfold ptsOf; rw [List.getElem?_eq_getElem (by omega)]))]
  · rw [List.getElem?_eq_none (by omega), List.getElem?_eq_none (by omega)]
    rfl
theorem Bis.refl {g : List Nd} (hg : okG g) : Bis g g fun i j => i = j ∧ i < g.length where
  lt := by rintro i j ⟨rfl, h⟩; exact ⟨h, h⟩
  hd := by rintro i j ⟨rfl, h⟩; rfl
  pt := by
    rintro i j ⟨rfl, h⟩ k u v h1 h2
    rw [h1] at h2
    cases h2
    exact ⟨rfl, (parts_lt hg h).2 u (List.mem_of_getElem? h1)⟩
/-- any kinds -/
theorem leastL_any {g : List Nd} (hg : okG g) (h0 : 0 < g.length) {K : List Nat} (hK : Fin g K) : leastK g K = leastL g :=
  least_bis (Bis.refl hg) ⟨rfl, h0⟩ hg hg hK (clsL_fin hg h0)
theorem leastL_bis {g h : List Nd} {B : Nat → Nat → Prop} (b : Bis g h B) (h00 : B 0 0) (hg : okG g) (hh : okG h) : leastL g = leastL h :=
  least_bis b h00 hg hh (clsL_fin hg (b.lt _ _ h00).1) (clsL_fin hh (b.lt _ _ h00).2)
end LD
set_option maxRecDepth 100000
namespace LD
open L3
/-! ### what a walk of a graph meets -/
theorem DF.mono {g : List Nd} {K : List Nat} {fs w fs' : List Nat} (d : DF g K fs w fs') : ∀ i, (ordOf K fs i).isSome = true → (ordOf K fs' i).isSome = true := by
  induction d with
  | nil => exact fun i h => h
  | seen _ _ ih => exact ih
  | new _ _ ih => exact fun i h => ih i (ord_mono h)
theorem DF.unm {g : List Nd} {K : List Nat} {fs w fs' : List Nat} (d : DF g K fs w fs') : unm g K fs' ≤ unm g K fs := by
  refine List.countP_mono_left fun i _ h => ?_
  cases hq : (ordOf K fs i).isSome with
  | false => simpa using hq
  | true =>
    have := d.mono i hq
    rw [Option.isSome_iff_ne_none] at this
    rw [Option.isNone_iff_eq_none] at h
    exact absurd h this
theorem DF.nd {g : List Nd} {K : List Nat} {fs w fs' : List Nat} (d : DF g K fs w fs') (h : (fs.map (kd K)).Nodup) : (fs'.map (kd K)).Nodup := by
  induction d with
  | nil => exact h
  | seen _ _ ih => exact ih h
  | new hs _ ih =>
    refine ih ?_
    rw [List.map_append, List.nodup_append]
    refine ⟨h, by simp, fun a ha b hb => ?_⟩
    rw [List.map_cons, List.map_nil, List.mem_singleton] at hb
    subst hb
    rintro rfl
    unfold ordOf at hs
    cases hx : ixOf (kd K _) (List.map (kd K) _) with
    | none => exact ixOf_not hx ha
    | some i => rw [hx] at hs; cases hs
theorem DF.lt {g : List Nd} {K : List Nat} (hg : okG g) {fs w fs' : List Nat} (d : DF g K fs w fs') (h : ∀ a ∈ fs, a < g.length) (hw : ∀ a ∈ w, a < g.length) : ∀ a ∈ fs', a < g.length := by
  induction d with
  | nil => exact h
  | seen _ _ ih => exact ih h fun b hb => hw b (List.mem_cons_of_mem _ hb)
  | new hs _ ih =>
    have ha := hw _ List.mem_cons_self
    refine ih (fun b hb => ?_) fun b hb => ?_
    · rcases List.mem_append.mp hb with hb | hb
      · exact h b hb
      · rw [List.mem_singleton.mp hb]
        exact ha
    · rcases List.mem_append.mp hb with hb | hb
      · exact (parts_lt hg ha).2 b hb
      · exact hw b (List.mem_cons_of_mem _ hb)
theorem DF.closed {g : List Nd} {K : List Nat} {fs w fs' : List Nat} (d : DF g K fs w fs') (h : ∀ a ∈ fs, ∀ j ∈ ptsOf g a, (ordOf K fs j).isSome = true ∨ j ∈ w) : ∀ a ∈ fs', ∀ j ∈ ptsOf g a, (ordOf K fs' j).isSome = true := by
  induction d with
  | nil => exact fun a ha j hj => (h a ha j hj).elim id (fun z => by cases z)
  | seen hs _ ih =>
    refine ih fun a ha j hj => ?_
    rcases h a ha j hj with h | h
    · exact .inl h
    · rcases List.mem_cons.mp h with rfl | h
      · exact .inl hs
      · exact .inr h
  | new hs _ ih =>
    refine ih fun a ha j hj => ?_
    rcases List.mem_append.mp ha with ha | ha
    · rcases h a ha j hj with h | h
      · exact .inl (ord_mono h)
      · rcases List.mem_cons.mp h with rfl | h
        · exact .inl ord_self
        · exact .inr (List.mem_append_right _ h)
    · rw [List.mem_singleton.mp ha] at hj
      exact .inr (List.mem_append_left _ hj)
end LD
/-! L3Pl: == of plain values (numbers, texts, None, tuples of them). -/
namespace L3
open PySem PySem.Spec
mutual
/-- a plain value at most d tuples deep -/
def pl : Nat → PV → Bool
  | _, .non => true
  | _, .int _ => true
  | _, .str x => x.all (· < 1114112)
  | 0, .tup _ => false
  | d + 1, .tup xs => pls d xs
  | _, _ => false
def pls : Nat → List PV → Bool
  | _, [] => true
  | d, x :: xs => pl d x && pls d xs
end
theorem pls_iff {d : Nat} : ∀ {xs : List PV}, pls d xs = true ↔ ∀ x ∈ xs, pl d x = true
  | [] => by simp [pls]
  | x :: xs => by simp [pls, pls_iff (xs := xs)]
mutual
theorem pl_D : ∀ {d : Nat} {x : PV}, pl d x = true → ∃ D, pD x = some D ∧ D.depth ≤ d
  | d, .non, _ => ⟨.none, rfl, by simp [PyData.depth]⟩
  | d, .int i, _ => ⟨.int i, rfl, by simp [PyData.depth]⟩
  | d, .str x, h => ⟨.str ⟨x.toArray⟩, by simp only [pl] at h; simp only [pD, h, if_true], by simp [PyData.depth]⟩
  | 0, .tup xs, h => by simp [pl] at h
  | d + 1, .tup xs, h => by
    simp only [pl] at h
    obtain ⟨D, h1, h2⟩ := pls_D h
    exact ⟨.tuple D, by simp [pD, h1], by simp only [PyData.depth]; omega⟩
  | d, .bl _, h => by simp [pl] at h
  | d, .ref _, h => by simp [pl] at h
  | d, .rol _, h => by simp [pl] at h
  | d, .rot _, h => by simp [pl] at h
theorem pls_D : ∀ {d : Nat} {xs : List PV}, pls d xs = true → ∃ D, pDs xs = some D ∧ PyData.depthAll D ≤ d
  | d, [], _ => ⟨[], rfl, by simp [PyData.depthAll]⟩
  | d, x :: xs, h => by
    simp only [pls, Bool.and_eq_true] at h
    obtain ⟨D, h1, h2⟩ := pl_D h.1
    obtain ⟨Ds, h3, h4⟩ := pls_D h.2
    exact ⟨D :: Ds, by simp [pDs, h1, h3], by simp only [PyData.depthAll]; omega⟩
end
mutual
theorem pl_mono : ∀ {d e : Nat} {x : PV}, pl d x = true → d ≤ e → pl e x = true
  | d, e, .non, _, _ => by simp [pl]
  | d, e, .int i, _, _ => by simp [pl]
  | d, e, .str x, h, _ => by simpa [pl] using h
  | 0, e, .tup xs, h, _ => by simp [pl] at h
  | d + 1, e, .tup xs, h, l => by
    obtain ⟨e, rfl⟩ : ∃ f, e = f + 1 := ⟨e - 1, by omega⟩
    simp only [pl] at h ⊢
    exact pls_mono h (by omega)
  | d, e, .bl _, h, _ => by simp [pl] at h
  | d, e, .ref _, h, _ => by simp [pl] at h
  | d, e, .rol _, h, _ => by simp [pl] at h
  | d, e, .rot _, h, _ => by simp [pl] at h
theorem pls_mono : ∀ {d e : Nat} {xs : List PV}, pls d xs = true → d ≤ e → pls e xs = true
  | d, e, [], _, _ => by simp [pls]
  | d, e, x :: xs, h, l => by
    simp only [pls, Bool.and_eq_true] at h ⊢
    exact ⟨pl_mono h.1 l, pls_mono h.2 l⟩
end
theorem str_beq {a b : Sy} : ((⟨a.toArray⟩ : Str) == ⟨b.toArray⟩) = decide (a = b) := by
  by_cases h : a = b
  · subst h; simp
  · simp only [h, decide_false]
    rw [beq_eq_false_iff_ne]
    intro e
    have e := congrArg Str.cps e
    simp at e
    exact h e
mutual
theorem pl_eqv : ∀ {d e : Nat} {x y : PV} {D E : PyData}, pl d x = true → pl e y = true → pD x = some D → pD y = some E → PyData.eqv D E = PV.beq x y
  | d, e, x, y, D, E, h1, h2, h3, h4 => by
    cases x with
    | non =>
      cases h3
      cases y with
      | non => cases h4; simp [PyData.eqv, PV.beq]
      | int j => cases h4; simp [PyData.eqv, PV.beq]
      | str b => simp only [pl] at h2; simp only [pD, h2, if_true] at h4; cases h4; simp [PyData.eqv, PV.beq]
      | tup ys => simp only [pD, Option.map_eq_some_iff] at h4; obtain ⟨_, _, rfl⟩ := h4; simp [PyData.eqv, PV.beq]
      | _ => simp [pl] at h2
    | int i =>
      cases h3
      cases y with
      | non => cases h4; simp [PyData.eqv, PV.beq]
      | int j =>
        cases h4
        simp only [PyData.eqv, PV.beq]
      | str b => simp only [pl] at h2; simp only [pD, h2, if_true] at h4; cases h4; simp [PyData.eqv, PV.beq]
      | tup ys => simp only [pD, Option.map_eq_some_iff] at h4; obtain ⟨_, _, rfl⟩ := h4; simp [PyData.eqv, PV.beq]
      | _ => simp [pl] at h2
    | str a =>
      simp only [pl] at h1; simp only [pD, h1, if_true] at h3
      cases h3
      cases y with
      | non => cases h4; simp [PyData.eqv, PV.beq]
      | int j => cases h4; simp [PyData.eqv, PV.beq]
      | str b =>
        simp only [pl] at h2; simp only [pD, h2, if_true] at h4; cases h4
        simp only [PyData.eqv, PV.beq]
        rw [str_beq]
        by_cases h : a = b <;> simp [h]
      | tup ys => simp only [pD, Option.map_eq_some_iff] at h4; obtain ⟨_, _, rfl⟩ := h4; simp [PyData.eqv, PV.beq]
      | _ => simp [pl] at h2
    | tup xs =>
      simp only [pD, Option.map_eq_some_iff] at h3
      obtain ⟨Ds, h3, rfl⟩ := h3
      have hx : ∃ d', pls d' xs = true := by
        cases d with
        | zero => simp [pl] at h1
        | succ d => exact ⟨d, by simpa [pl] using h1⟩
      obtain ⟨d', hx⟩ := hx
      cases y with
      | non => cases h4; simp [PyData.eqv, PV.beq]
      | int j => cases h4; simp [PyData.eqv, PV.beq]
      | str b => simp only [pl] at h2; simp only [pD, h2, if_true] at h4; cases h4; simp [PyData.eqv, PV.beq]
      | tup ys =>
        simp only [pD, Option.map_eq_some_iff] at h4
        obtain ⟨Es, h4, rfl⟩ := h4
        have hy : ∃ d', pls d' ys = true := by
          cases e with
          | zero => simp [pl] at h2
          | succ d => exact ⟨d, by simpa [pl] using h2⟩
        obtain ⟨e', hy⟩ := hy
        simp only [PyData.eqv, PV.beq]
        exact pls_eqv hx hy h3 h4
      | _ => simp [pl] at h2
    | _ => simp [pl] at h1
theorem pls_eqv : ∀ {d e : Nat} {xs ys : List PV} {D E : List PyData}, pls d xs = true → pls e ys = true → pDs xs = some D → pDs ys = some E → PyData.eqvAll D E = PV.beqs xs ys
  | d, e, [], [], D, E, h1, h2, h3, h4 => by cases h3; cases h4; simp [PyData.eqvAll, PV.beqs]
  | d, e, [], y :: ys, D, E, h1, h2, h3, h4 => by
    obtain ⟨Es, h5, _⟩ := pls_D h2
    simp only [pls, Bool.and_eq_true] at h2
    obtain ⟨E1, h6, _⟩ := pl_D h2.1
    obtain ⟨E2, h7, _⟩ := pls_D h2.2
    simp only [pDs, h6, h7] at h4
    cases h3; cases h4; simp [PyData.eqvAll, PV.beqs]
  | d, e, x :: xs, [], D, E, h1, h2, h3, h4 => by
    simp only [pls, Bool.and_eq_true] at h1
    obtain ⟨E1, h6, _⟩ := pl_D h1.1
    obtain ⟨E2, h7, _⟩ := pls_D h1.2
    simp only [pDs, h6, h7] at h3
    cases h3; cases h4; simp [PyData.eqvAll, PV.beqs]
  | d, e, x :: xs, y :: ys, D, E, h1, h2, h3, h4 => by
    simp only [pls, Bool.and_eq_true] at h1 h2
    obtain ⟨D1, h6, _⟩ := pl_D h1.1
    obtain ⟨D2, h7, _⟩ := pls_D h1.2
    obtain ⟨E1, h8, _⟩ := pl_D h2.1
    obtain ⟨E2, h9, _⟩ := pls_D h2.2
    simp only [pDs, h6, h7] at h3
    simp only [pDs, h8, h9] at h4
    cases h3; cases h4
    simp only [PyData.eqvAll, PV.beqs]
    rw [pl_eqv h1.1 h2.1 h6 h8, pls_eqv h1.2 h2.2 h7 h9]
end
theorem toD_pl {S : Store} {x : PV} {d : Nat} (h : pl d x = true) : toD S x = pD x := by
  cases x <;> first | rfl | simp [pl] at h
theorem pyEq_pl {S : Store} {x y : PV} (h1 : pl 60 x = true) (h2 : pl 60 y = true) : pyEq S x y = some (decide (x = y)) := by
  have hb : PV.beq x y = decide (x = y) := by
    rw [Bool.eq_iff_iff, PV.beq_iff, decide_eq_true_iff]
  unfold pyEq
  split
  · rename_i a b
    by_cases h : a = b
    · subst h; simp
    · simp [h]
  · obtain ⟨D, a1, a2⟩ := pl_D h1
    obtain ⟨E, b1, b2⟩ := pl_D h2
    rw [toD_pl h1, toD_pl h2, a1, b1]
    simp only []
    rw [if_pos ⟨a2, b2⟩, pl_eqv h1 h2 a1 b1, hb]
theorem Cq_eqp {S : Store} {x y : PV} {Q : Bool → Prop} (h1 : pl 60 x = true) (h2 : pl 60 y = true) : Cq .eq x y S Q = Q (decide (x = y)) := Cq_some (pyEq_pl h1 h2)
theorem Cq_nep {S : Store} {x y : PV} {Q : Bool → Prop} (h1 : pl 60 x = true) (h2 : pl 60 y = true) : Cq .ne x y S Q = Q (!decide (x = y)) := Cq_some (by simp [cop, pyEq_pl h1 h2])
theorem any_eqv {x : PV} {D : PyData} {e : Nat} (h1 : pl e x = true) (hD : pD x = some D) : ∀ {d : Nat} {ys : List PV} {E : List PyData}, pls d ys = true → pDs ys = some E → (E.any fun z => PyData.eqv z D) = ys.any fun y => PV.beq y x
  | d, [], E, _, h3 => by cases h3; rfl
  | d, y :: ys, E, h2, h3 => by
    simp only [pls, Bool.and_eq_true] at h2
    obtain ⟨E1, h6, _⟩ := pl_D h2.1
    obtain ⟨E2, h7, _⟩ := pls_D h2.2
    simp only [pDs, h6, h7] at h3
    cases h3
    rw [List.any_cons, List.any_cons, pl_eqv h2.1 h1 h6 hD, any_eqv h1 hD h2.2 h7]
theorem Cq_inp {S : Store} {xs ys : List PV} {Q : Bool → Prop} (h1 : pl 40 (.tup xs) = true) (h2 : pls 40 ys = true) : Cq .inn (.tup xs) (.tup ys) S Q = Q (decide (PV.tup xs ∈ ys)) := by
  obtain ⟨D, a1, a2⟩ := pl_D h1
  obtain ⟨E, b1, b2⟩ := pls_D h2
  refine Cq_some ?_
  show deepIn (.tup xs) ys = _
  unfold deepIn
  rw [a1, b1]
  simp only []
  rw [if_pos ⟨by omega, by omega⟩, any_eqv h1 a1 h2 b1]
  congr 1
  rw [Bool.eq_iff_iff, List.any_eq_true, decide_eq_true_iff]
  constructor
  · rintro ⟨y, hy, e⟩
    rw [← PV.beq_iff.mp e]
    exact hy
  · intro h
    exact ⟨_, h, PV.beq_iff.mpr rfl⟩
end L3
set_option maxRecDepth 100000
namespace LD
open L3
local macro_rules | `(tactic| walk_at "e") => `(tactic| try simp -dsimp only [↓y_cons, ↓y_if, ↓y_asub, ↓W_rt, ↓W_ex, ↓W_fr, ↓W_lc, ↓W_pass, ↓W_brk, ↓W_cnt, ↓W_retn, ↓W_nil, ↓nxt_nx, ↓nxt_rt, ↓nxt_bk, ↓nxt_ct, ↓retK_rt, ↓retK_nx, ↓e_con, ↓e_glo, ↓e_tup, ↓e_lst, ↓e_bin, ↓e_negi, ↓e_nt, ↓T_idx, ↓T_cal, ↓T_bf, ↓T_bin, ↓T_tup, ↓T_fld, ↓T_mth, ↓T_ife, ↓T_var, ↓T_glo, ↓T_con, ↓T_cmp, ↓T_chn, ↓T_isi, ↓T_nt, ↓T_and, ↓T_or, ↓e_and, ↓e_or, ↓e_ife, ↓e_cmp, ↓e_chn, ↓e_idx, ↓e_slc, ↓e_fld, ↓e_cal, ↓e_mth, ↓e_dnew, ↓e_lens, ↓m_fn, ↓Iq_R, ↓e_bf1, ↓e_bf, ↓e_isi, ↓es_nil, ↓es_cons, ↓eo_no, ↓i_seq, ↓q_tup, ↓q_rol, ↓q_str, ↓o_addi, ↓o_subi, ↓o_p9, ↓o_slct, ↓u_lenT, ↓u_lenC, ↓u_int, ↓u_abs, ↓u_max, ↓u_min, ↓u_tupT, ↓u_lstT, ↓u_lstC, ↓Br_t, ↓Br_f, ↓Br_n, ↓Tq_bl, ↓Tq_int, ↓Tq_tup, ↓Tq_rol, ↓Tq_non, ↓Gq_s, ↓Yq_non, ↓Yq_bl, ↓Yq_int, ↓Yq_str, ↓Yq_tup, ↓Yq_rol, ↓Cq_isnn, ↓Cq_isN, ↓Iq_T, ↓Iq_C, ↓Cq_eqi, ↓Cq_nei, ↓Cq_eqs, ↓Cq_nes, ↓Cq_eqb, ↓Cq_neb, ↓Cq_lti, ↓Cq_lei, ↓Cq_gti, ↓Cq_gei, ↓Cq_isb, ↓Cq_isnb, ↓Cq_lts, ↓Cq_inn1, ↓Cq_nin1, ↓v_0, ↓n_0, ↓g_0, ↓t_0, ↓v_1, ↓n_1, ↓g_1, ↓t_1, ↓v_2, ↓n_2, ↓g_2, ↓t_2, ↓v_3, ↓n_3, ↓g_3, ↓t_3, ↓v_4, ↓n_4, ↓g_4, ↓t_4, ↓v_5, ↓n_5, ↓g_5, ↓t_5, ↓v_6, ↓n_6, ↓g_6, ↓t_6, ↓v_7, ↓n_7, ↓g_7, ↓t_7, ↓v_8, ↓n_8, ↓g_8, ↓t_8, ↓v_9, ↓n_9, ↓g_9, ↓t_9, ↓v_10, ↓n_10, ↓g_10, ↓t_10, ↓v_11, ↓n_11, ↓g_11, ↓t_11, ↓v_12, ↓n_12, ↓g_12, ↓t_12, ↓v_13, ↓n_13, ↓g_13, ↓t_13, Iq_R, Br_t, Br_f, Br_n, Tq_bl, Tq_int, Tq_tup, Tq_rol, Tq_non, Gq_s, Yq_non, Yq_bl, Yq_int, Yq_str, Yq_tup, Yq_rol, Cq_isnn, Cq_isN, Iq_T, Iq_C, Cq_eqi, Cq_nei, Cq_eqs, Cq_nes, Cq_eqb, Cq_neb, Cq_lti, Cq_lei, Cq_gti, Cq_gei, Cq_isb, Cq_isnb, Cq_lts, Cq_inn1, Cq_nin1, e_neg, eo_ex, i_rng, i_rng2, y_aug, at_0, at_1, at_2, at_3, cxF_T, cxF_call, Bool.not_true, Bool.not_false, Bool.false_eq_true, if_true, if_false, tyB, PV.int.injEq, exists_eq_left, exists_eq_left', List.isEmpty_nil, List.isEmpty_cons, List.length_cons, List.length_nil, List.map_cons, List.map_nil, Option.map_some, startEnv, List.replicate, List.cons_append, List.nil_append, PV.int.injEq, ↓cG, ↓e_ddis, ↓y_afld, ↓y_atup, ↓t_tup, ↓ts_nil, ↓ts_cons, ↓e_dget1, ↓e_dget2, ↓e_dset, ↓e_lzip, ↓e_rev, ↓i_enum, ↓y_augs, ↓y_try, ↓y_rai, ↓h_nil, ↓h_ret, ↓h_isi, ↓e_ddist, ↓e_kdi, ↓e_lrng, ↓i_zip, ↓i_rvd, ↓y_del, ↓e_negU, ↓y_augf, ↓v_14, ↓n_14, ↓g_14, ↓t_14, ↓v_15, ↓n_15, ↓g_15, ↓t_15, ↓v_16, ↓n_16, ↓g_16, ↓t_16, ↓v_17, ↓n_17, ↓g_17, ↓t_17, ↓v_18, ↓n_18, ↓g_18, ↓t_18, ↓v_19, ↓n_19, ↓g_19, ↓t_19, ↓v_20, ↓n_20, ↓g_20, ↓t_20, ↓v_21, ↓n_21, ↓g_21, ↓t_21, ↓v_22, ↓n_22, ↓g_22, ↓t_22, ↓v_23, ↓n_23, ↓g_23, ↓t_23, u_intB, o_muli, o_modi, o_fdivi, cG, k_ix, ixO_L, ixO_D, ixO_F, k_sx, k_sf, k_fld, k_tr, k_ty, k_in, k_nin, k_int_i, k_int_s, k_int_b, k_int_n, k_nint, k_inr, k_ninr, k_len, k_tuple, k_list, k_sorted, k_min, k_q, k_lens, k_add, k_mul, k_slc, k_mth, mqO_L, lm_app, lm_ext, lm_pop, k_app, k_extT, k_extL, k_pop, k_isd, k_dget, k_dset, k_lzip, k_revT, k_revL, k_enT, k_enL, o_subb, k_ltT, k_gtT, k_ltL, k_lrng, k_zip, Uq_i, t_tupL, lm_idx, k_idx, k_del, k_mthS, sm_join, sm_sw, sm_low, k_join, k_sw, u_strS, k_pop0, nJ_nx, nJ_rt, nJ_bk, nJ_ct, inL_t, inL_i, inL_s, inL_b, inL_n, wipe_1, wipe_nil, app_0, app_k, sapp_0, sapp_k, List.getElem?_cons_zero, List.getElem?_cons_succ, List.set_cons_zero, List.set_cons_succ, List.append_assoc, List.length_append, Nat.reduceAdd, glob_MOST_NODES, g_MOST_NODES])
local macro_rules | `(tactic| walk_at "s") => `(tactic| try simp -dsimp only [↓y_cons, ↓y_if, ↓y_asub, ↓W_rt, ↓W_ex, ↓W_fr, ↓W_lc, ↓W_pass, ↓W_brk, ↓W_cnt, ↓W_retn, ↓W_nil, ↓nxt_nx, ↓nxt_rt, ↓nxt_bk, ↓nxt_ct, ↓retK_rt, ↓retK_nx, ↓e_con, ↓e_glo, ↓e_tup, ↓e_lst, ↓e_bin, ↓e_negi, ↓e_nt, ↓T_idx, ↓T_cal, ↓T_bf, ↓T_bin, ↓T_tup, ↓T_fld, ↓T_mth, ↓T_ife, ↓T_var, ↓T_glo, ↓T_con, ↓T_cmp, ↓T_chn, ↓T_isi, ↓T_nt, ↓T_and, ↓T_or, ↓e_and, ↓e_or, ↓e_ife, ↓e_cmp, ↓e_chn, ↓e_idx, ↓e_slc, ↓e_fld, ↓e_cal, ↓e_mth, ↓e_dnew, ↓e_lens, ↓m_fn, ↓Iq_R, ↓e_bf1, ↓e_bf, ↓e_isi, ↓es_nil, ↓es_cons, ↓eo_no, ↓i_seq, ↓q_tup, ↓q_rol, ↓q_str, ↓o_addi, ↓o_subi, ↓o_p9, ↓o_slct, ↓u_lenT, ↓u_lenC, ↓u_int, ↓u_abs, ↓u_max, ↓u_min, ↓u_tupT, ↓u_lstT, ↓u_lstC, ↓Br_t, ↓Br_f, ↓Br_n, ↓Tq_bl, ↓Tq_int, ↓Tq_tup, ↓Tq_rol, ↓Tq_non, ↓Gq_s, ↓Yq_non, ↓Yq_bl, ↓Yq_int, ↓Yq_str, ↓Yq_tup, ↓Yq_rol, ↓Cq_isnn, ↓Cq_isN, ↓Iq_T, ↓Iq_C, ↓Cq_eqi, ↓Cq_nei, ↓Cq_eqs, ↓Cq_nes, ↓Cq_eqb, ↓Cq_neb, ↓Cq_lti, ↓Cq_lei, ↓Cq_gti, ↓Cq_gei, ↓Cq_isb, ↓Cq_isnb, ↓Cq_lts, ↓Cq_inn1, ↓Cq_nin1, ↓v_0, ↓n_0, ↓g_0, ↓t_0, ↓v_1, ↓n_1, ↓g_1, ↓t_1, ↓v_2, ↓n_2, ↓g_2, ↓t_2, ↓v_3, ↓n_3, ↓g_3, ↓t_3, ↓v_4, ↓n_4, ↓g_4, ↓t_4, ↓v_5, ↓n_5, ↓g_5, ↓t_5, ↓v_6, ↓n_6, ↓g_6, ↓t_6, ↓v_7, ↓n_7, ↓g_7, ↓t_7, ↓v_8, ↓n_8, ↓g_8, ↓t_8, ↓v_9, ↓n_9, ↓g_9, ↓t_9, ↓v_10, ↓n_10, ↓g_10, ↓t_10, ↓v_11, ↓n_11, ↓g_11, ↓t_11, ↓v_12, ↓n_12, ↓g_12, ↓t_12, ↓v_13, ↓n_13, ↓g_13, ↓t_13, Iq_R, Br_t, Br_f, Br_n, Tq_bl, Tq_int, Tq_tup, Tq_rol, Tq_non, Gq_s, Yq_non, Yq_bl, Yq_int, Yq_str, Yq_tup, Yq_rol, Cq_isnn, Cq_isN, Iq_T, Iq_C, Cq_eqi, Cq_nei, Cq_eqs, Cq_nes, Cq_eqb, Cq_neb, Cq_lti, Cq_lei, Cq_gti, Cq_gei, Cq_isb, Cq_isnb, Cq_lts, Cq_inn1, Cq_nin1, e_neg, eo_ex, i_rng, i_rng2, y_aug, at_0, at_1, at_2, at_3, cxF_T, cxF_call, Bool.not_true, Bool.not_false, Bool.false_eq_true, if_true, if_false, tyB, PV.int.injEq, exists_eq_left, exists_eq_left', List.isEmpty_nil, List.isEmpty_cons, List.length_cons, List.length_nil, List.map_cons, List.map_nil, Option.map_some, startEnv, List.replicate, List.cons_append, List.nil_append, PV.int.injEq, ↓cG, ↓e_ddis, ↓y_afld, ↓y_atup, ↓t_tup, ↓ts_nil, ↓ts_cons, ↓e_dget1, ↓e_dget2, ↓e_dset, ↓e_lzip, ↓e_rev, ↓i_enum, ↓y_augs, ↓y_try, ↓y_rai, ↓h_nil, ↓h_ret, ↓h_isi, ↓e_ddist, ↓e_kdi, ↓e_lrng, ↓i_zip, ↓i_rvd, ↓y_del, ↓e_negU, ↓y_augf, ↓v_14, ↓n_14, ↓g_14, ↓t_14, ↓v_15, ↓n_15, ↓g_15, ↓t_15, ↓v_16, ↓n_16, ↓g_16, ↓t_16, ↓v_17, ↓n_17, ↓g_17, ↓t_17, ↓v_18, ↓n_18, ↓g_18, ↓t_18, ↓v_19, ↓n_19, ↓g_19, ↓t_19, ↓v_20, ↓n_20, ↓g_20, ↓t_20, ↓v_21, ↓n_21, ↓g_21, ↓t_21, ↓v_22, ↓n_22, ↓g_22, ↓t_22, ↓v_23, ↓n_23, ↓g_23, ↓t_23, u_intB, o_muli, o_modi, o_fdivi, cG, k_ix, ixO_L, ixO_D, ixO_F, k_sx, k_sf, k_fld, k_tr, k_ty, k_in, k_nin, k_int_i, k_int_s, k_int_b, k_int_n, k_nint, k_inr, k_ninr, k_len, k_tuple, k_list, k_sorted, k_min, k_q, k_lens, k_add, k_mul, k_slc, k_mth, mqO_L, lm_app, lm_ext, lm_pop, k_app, k_extT, k_extL, k_pop, k_isd, k_dget, k_dset, k_lzip, k_revT, k_revL, k_enT, k_enL, o_subb, k_ltT, k_gtT, k_ltL, k_lrng, k_zip, Uq_i, t_tupL, lm_idx, k_idx, k_del, k_mthS, sm_join, sm_sw, sm_low, k_join, k_sw, u_strS, k_pop0, nJ_nx, nJ_rt, nJ_bk, nJ_ct, inL_t, inL_i, inL_s, inL_b, inL_n, wipe_1, wipe_nil, app_0, app_k, sapp_0, sapp_k, List.getElem?_cons_zero, List.getElem?_cons_succ, List.set_cons_zero, List.set_cons_succ, List.append_assoc, List.length_append, Nat.reduceAdd, glob_MOST_NODES, g_MOST_NODES, *])
local macro_rules | `(tactic| walk_at "b") => `(tactic| first | (refine Br_d (fun h => ?_) (fun h => ?_) <;> walk_at "e") | (refine Br_e (fun h => ?_) (fun h => ?_) <;> walk_at "e") | (refine Br_i (fun h => ?_) (fun h => ?_) <;> walk_at "e"))
local macro_rules | `(tactic| walk_at "k") => `(tactic| first | (refine Br_e (fun h => absurd h (by decide)) (fun _ => ?_)) | (refine Br_d (fun h => absurd h (by decide)) (fun _ => ?_)) | (refine Br_e (fun _ => ?_) (fun h => absurd rfl h)) | (refine Br_d (fun _ => ?_) (fun h => absurd (by decide) h)) | (refine Br_e (fun _ => ?_) (fun h => absurd (by decide) h)) | (refine Br_d (fun h => absurd h (by omega)) (fun _ => ?_)) | (refine Br_d (fun _ => ?_) (fun h => absurd (by omega) h)) | (refine Br_e (fun h => absurd h (by omega)) (fun _ => ?_)) | (refine Br_e (fun _ => ?_) (fun h => absurd (by omega) h)))
theorem pls_ints {d : Nat} : ∀ {ps : List Nat}, pls d (ps.map pvI) = true
  | [] => by simp [pls]
  | p :: ps => by
    have := pls_ints (d := d) (ps := ps)
    simp [pls, pl, pvI] at this ⊢
    exact this
section
variable {n s : Nat} {S : Store} {Q : PV → Store → Prop} {E : Exn → Store → Prop}
/-! ### draws beside stores -/
theorem _root_.L3.Strm.fr {W : List Nat} {S' : Store} (h : Strm S s) (f : Fr W S S') (h1 : s ∉ W) (h2 : s - 1 ∉ W) : Strm S' s := by
  obtain ⟨q, ns, a, k, m, e1, e2, rfl, r⟩ := h
  exact ⟨q, ns, a, k, m, f.at_ _ _ h1 e1, f.at_ _ _ (by simpa using h2) e2, rfl, r⟩
theorem d_fr {many : Int} (hs : Strm S s) (h0 : 0 < many) (h1 : many < 1073741824) (hP : ∀ (r : Nat) S', (r : Int) < many → Fr [s] S S' → Strm S' s → Q (.int (r : Nat)) S') : Wq (callG tab (n + 1) i__law_draw [.ref s, .int many] S) Q E := by
  rw [← cG]
  refine draw_ev rfl hs h0 h1 fun r S' r0 r1 e => ?_
  obtain ⟨k, rfl⟩ := Int.eq_ofNat_of_zero_le r0
  exact hP k S' r1 ⟨e.len, fun q o hq h => e.at' q o (by simpa using hq) h⟩ e.st
theorem lc_nat {cx : Cxi} {vs : List Nat} {k : Nat} {elt : CE} {ρ : Env} {S : Store} {P : PV → Store → Prop} {E : Exn → Store → Prop} (c m : Nat) (hs : Strm S s) (hi : k < (wipe ρ vs).length) (hF : c < cx.T.F) (hz : c < nsz)
    (hb : ∀ (j : Nat) S', Fr [s] S S' → Strm S' s → Wq (evalE cx elt ((wipe ρ vs).set k (some (.int (j : Nat)))) S') (fun y S2 => ∃ r : Nat, r < m ∧ y = pvI r ∧ Fr [s] S' S2 ∧ Strm S2 s) NoX)
    (hP : ∀ (ps : List Nat) S', ps.length = c → (∀ j ∈ ps, j < m) → Fr [s] S S' → Strm S' s → P (.ref S'.length) (S' ++ [.lst (ps.map pvI)])) : Lcw cx vs (.name k) (.con (.bl true)) elt (.rng 0 c) ρ S P E := by
  refine Lcw_I c (fun i acc S' => ∃ ps : List Nat, acc = ps.map pvI ∧ ps.length = i ∧ (∀ j ∈ ps, j < m) ∧ Fr [s] S S' ∧ Strm S' s) ⟨[], rfl, rfl, by simp, Fr.refl _, hs⟩ hF hz ?_
  rintro i acc S' ⟨ps, rfl, hl, hm, f, st⟩ hi2 ha
  refine ⟨fun hlt => ⟨.int (i : Nat), by simp [ItV.next, hlt], ?_⟩, fun he => ⟨by simp [ItV.next, he], ?_⟩⟩
  · rw [assignE, if_pos hi, Wq_ok]
    refine (hb i S' f st).imp fun y S2 ⟨r, hr, hy, f2, st2⟩ => ⟨ps ++ [r], ?_, by simp [hl], ?_, f.trans f2, st2⟩
    · rw [hy, List.map_append]
      rfl
    · intro j hj
      rcases List.mem_append.mp hj with h | h
      · exact hm j h
      · rw [List.mem_singleton.mp h]
        exact hr
  · exact hP ps S' (by omega) hm f st
theorem at_new {W : List Nat} {S' : Store} {o : MO} (f : Fr W (S ++ [o]) S') (h : S.length ∉ W) : S'[S.length]? = some o := f.at_ _ _ h at_push
end
end LD
set_option maxRecDepth 100000
namespace LD
open L3
/-! ### nodes that lead back to themselves -/
inductive Pth (h : List Nd) : Nat → Nat → Prop where
  | one {i j : Nat} (e : j ∈ ptsOf h i) : Pth h i j
  | cons {i j k : Nat} (e : j ∈ ptsOf h i) (p : Pth h j k) : Pth h i k
theorem Pth.snoc {h : List Nd} {i j k : Nat} (p : Pth h i j) (e : k ∈ ptsOf h j) : Pth h i k := by
  induction p with
  | one e0 => exact .cons e0 (.one e)
  | cons e0 _ ih => exact .cons e0 (ih e)
theorem pts_in {h : List Nd} {i j : Nat} (e : j ∈ ptsOf h i) : i < h.length := Classical.byContradiction fun z => by
  unfold ptsOf at e
  rw [List.getD_eq_getElem?_getD, List.getElem?_eq_none (by omega)] at e
  cases e
/-- how often i is a part of a node below m that is not in D -/
def cntTo (h : List Nd) (D : List Nat) (i : Nat) : Nat → Nat
  | 0 => 0
  | m + 1 => cntTo h D i m + if m ∈ D then 0 else (ptsOf h m).count i
theorem cntTo_add {h : List Nd} {D : List Nat} {u i : Nat} (hu : u ∉ D) : ∀ {m : Nat}, cntTo h (D ++ [u]) i m + (if u < m then (ptsOf h u).count i else 0) = cntTo h D i m
  | 0 => by simp [cntTo]
  | m + 1 => by
    have ih := cntTo_add (i := i) hu (h := h) (m := m)
    simp only [cntTo]
    by_cases e : u = m
    · subst e
      rw [if_neg (by omega)] at ih
      rw [if_pos (by simp), if_neg hu, if_pos (by omega)]
      omega
    · have hm : m ∈ D ++ [u] ↔ m ∈ D := by
        rw [List.mem_append, List.mem_singleton]
        constructor
        · rintro (h | h)
          · exact h
          · exact absurd h.symm e
        · exact .inl
      by_cases hmD : m ∈ D
      · rw [if_pos (hm.mpr hmD), if_pos hmD]
        by_cases z : u < m
        · rw [if_pos z] at ih; rw [if_pos (by omega)]; omega
        · rw [if_neg z] at ih; rw [if_neg (by omega)]; omega
      · rw [if_neg (fun q => hmD (hm.mp q)), if_neg hmD]
        by_cases z : u < m
        · rw [if_pos z] at ih; rw [if_pos (by omega)]; omega
        · rw [if_neg z] at ih; rw [if_neg (by omega)]; omega
theorem cntTo_zero {h : List Nd} {D : List Nat} {i : Nat} : ∀ {m : Nat}, cntTo h D i m = 0 ↔ ∀ u, u < m → u ∉ D → i ∉ ptsOf h u
  | 0 => by simp [cntTo]
  | m + 1 => by
    simp only [cntTo]
    rw [Nat.add_eq_zero_iff, cntTo_zero (m := m)]
    constructor
    · rintro ⟨h1, h2⟩ u hu hD
      by_cases e : u = m
      · subst e
        rw [if_neg hD] at h2
        exact List.count_eq_zero.mp h2
      · exact h1 u (by omega) hD
    · intro h1
      refine ⟨fun u hu => h1 u (by omega), ?_⟩
      by_cases e : m ∈ D
      · rw [if_pos e]
      · rw [if_neg e]
        exact List.count_eq_zero.mpr (h1 m (by omega) e)
theorem cntTo_le {h : List Nd} {D : List Nat} {u i : Nat} (hu : u ∉ D) {m : Nat} (hm : u < m) : (ptsOf h u).count i ≤ cntTo h D i m := by
  have := cntTo_add (i := i) hu (h := h) (m := m)
  rw [if_pos hm] at this
  omega
/-- at the end of the taking away -/
structure Kn (h : List Nd) (D : List Nat) : Prop where
  nd : D.Nodup
  lt : ∀ u ∈ D, u < h.length
  topo : ∀ (k v u : Nat), D[k]? = some v → v ∈ ptsOf h u → u ∈ D.take k
theorem Kn.push {h : List Nd} {D : List Nat} (x : Kn h D) {u : Nat} (hu : u ∉ D) (hl : u < h.length) (hc : cntTo h D u h.length = 0) : Kn h (D ++ [u]) where
  nd := by
    rw [List.nodup_append]
    refine ⟨x.nd, by simp, fun a ha b hb => ?_⟩
    rw [List.mem_singleton.mp hb]
    rintro rfl
    exact hu ha
  lt := fun v hv => by
    rcases List.mem_append.mp hv with hv | hv
    · exact x.lt v hv
    · rw [List.mem_singleton.mp hv]
      exact hl
  topo := fun k v w hk hv => by
    by_cases z : k < D.length
    · rw [List.getElem?_append_left z] at hk
      rw [List.take_append_of_le_length (by omega)]
      exact x.topo k v w hk hv
    · have hkl := (List.getElem?_eq_some_iff.mp hk).1
      rw [List.length_append, List.length_singleton] at hkl
      have : k = D.length := by omega
      subst this
      rw [List.getElem?_concat_length] at hk
      cases hk
      rw [List.take_left' rfl]
      refine Classical.byContradiction fun hw => ?_
      exact cntTo_zero.mp hc w (pts_in hv) hw hv
theorem Kn.back {h : List Nd} {D : List Nat} (x : Kn h D) {i j : Nat} (p : Pth h i j) : ∀ {k : Nat}, D[k]? = some j → ∃ k', k' < k ∧ D[k']? = some i := by
  have key : ∀ {u v k : Nat}, v ∈ ptsOf h u → D[k]? = some v → ∃ k', k' < k ∧ D[k']? = some u := fun {u v k} e hk => by
    have := x.topo k v u hk e
    obtain ⟨k', hk', e'⟩ := List.mem_iff_getElem.mp this
    rw [List.length_take] at hk'
    rw [List.getElem_take] at e'
    exact ⟨k', by omega, by rw [List.getElem?_eq_getElem (by omega), e']⟩
  induction p with
  | one e => exact fun hk => key e hk
  | cons e _ ih =>
    intro k hk
    obtain ⟨k1, h1, h2⟩ := ih hk
    obtain ⟨k2, h3, h4⟩ := key e h2
    exact ⟨k2, by omega, h4⟩
theorem nodup_lt {l : List Nat} {n : Nat} (h : l.Nodup) (hl : ∀ x ∈ l, x < n) : l.length ≤ n := by
  have := nodup_sub (X := List.range n) h fun a ha => List.mem_range.mpr (hl a ha)
  simpa using this
theorem chain_cycle {h : List Nd} {A : Nat → Prop} (f : Nat → Nat) (hA : ∀ v, A v → A (f v) ∧ f v < h.length ∧ v ∈ ptsOf h (f v)) {v0 : Nat} (h0 : A v0) : ∃ i, i < h.length ∧ Pth h i i := by
  let it : Nat → Nat := fun k => Nat.rec v0 (fun _ v => f v) k
  have its : ∀ k, it (k + 1) = f (it k) := fun k => rfl
  have hit : ∀ k, A (it k) := fun k => by
    induction k with
    | zero => exact h0
    | succ k ih => rw [its]; exact (hA _ ih).1
  have path : ∀ k d, Pth h (it (k + d + 1)) (it k) := fun k d => by
    induction d with
    | zero =>
      rw [Nat.add_zero, its]
      exact .one (hA _ (hit k)).2.2
    | succ d ih =>
      exact Pth.cons (show it (k + d + 1) ∈ ptsOf h (it (k + (d + 1) + 1)) from (hA _ (hit (k + d + 1))).2.2) ih
  have hnot : ¬ ((List.range (h.length + 1)).map fun k => it (k + 1)).Nodup := fun nd => by
    have := nodup_lt nd (n := h.length) fun x hx => by
      obtain ⟨k, _, rfl⟩ := List.mem_map.mp hx
      rw [its]
      exact (hA _ (hit k)).2.1
    rw [List.length_map, List.length_range] at this
    omega
  have : ∃ a b, a < b ∧ it (a + 1) = it (b + 1) := Classical.byContradiction fun z => hnot (by
    rw [List.Nodup, List.pairwise_map]
    refine List.Pairwise.imp ?_ (List.pairwise_lt_range (n := h.length + 1))
    intro a b hab e
    exact z ⟨a, b, hab, e⟩)
  obtain ⟨a, b, hab, e⟩ := this
  refine ⟨it (a + 1), by rw [its]; exact (hA _ (hit a)).2.1, ?_⟩
  have := path (a + 1) (b - a - 1)
  rw [show a + 1 + (b - a - 1) + 1 = b + 1 by omega, ← e] at this
  exact this
theorem Kn.cycle {h : List Nd} {D : List Nat} (x : Kn h D) (he : ∀ i, i < h.length → (i ∈ D ↔ cntTo h D i h.length = 0)) : D.length < h.length ↔ ∃ i, i < h.length ∧ Pth h i i := by
  constructor
  · intro hl
    have : ∃ v, v < h.length ∧ v ∉ D := Classical.byContradiction fun z => by
      have := nodup_sub (D := List.range h.length) (X := D) List.nodup_range fun a ha => Classical.byContradiction fun q => z ⟨a, List.mem_range.mp ha, q⟩
      rw [List.length_range] at this
      omega
    obtain ⟨v0, hv, hvD⟩ := this
    have ex : ∀ v, (v < h.length ∧ v ∉ D) → ∃ u, (u < h.length ∧ u ∉ D) ∧ v ∈ ptsOf h u := fun v ⟨h1, h2⟩ => Classical.byContradiction fun z => h2 ((he v h1).mpr (cntTo_zero.mpr fun u hu hD hm => z ⟨u, ⟨hu, hD⟩, hm⟩))
    refine chain_cycle (A := fun v => v < h.length ∧ v ∉ D) (fun v => @dite _ (v < h.length ∧ v ∉ D) (Classical.propDecidable _) (fun q => (ex v q).choose) fun _ => 0) (fun v q => ?_) ⟨hv, hvD⟩
    rw [dif_pos q]
    have := (ex v q).choose_spec
    exact ⟨this.1, this.1.1, this.2⟩
  · rintro ⟨i, hi, p⟩
    refine Classical.byContradiction fun hl => ?_
    have hall : i ∈ D := Classical.byContradiction fun z => by
      have := nodup_sub (D := D) (X := (List.range h.length).erase i) x.nd fun a ha => (List.mem_erase_of_ne (fun e => z (by rw [← e]; exact ha))).mpr (List.mem_range.mpr (x.lt a ha))
      rw [List.length_erase_of_mem (List.mem_range.mpr hi), List.length_range] at this
      omega
    obtain ⟨k, hk, e⟩ := List.mem_iff_getElem.mp hall
    obtain ⟨k', h1, h2⟩ := x.back p (k := k) (by rw [List.getElem?_eq_getElem hk, e])
    obtain ⟨hk', e'⟩ := List.getElem?_eq_some_iff.mp h2
    have := (List.getElem_inj x.nd).mp (e'.trans e.symm)
    omega
/-- what leads back: the walk's end -/
theorem reach_in {h : List Nd} {sn : List Nat} {a : Nat} (h1 : ∀ y ∈ ptsOf h a, y ∈ sn) (h2 : ∀ x ∈ sn, ∀ y ∈ ptsOf h x, y ∈ sn) {x : Nat} (p : Pth h a x) : x ∈ sn := by
  have key : ∀ {i x : Nat}, Pth h i x → i ∈ sn → x ∈ sn := fun p => by
    induction p with
    | one e => exact fun hi => h2 _ hi _ e
    | cons e _ ih => exact fun hi => ih (h2 _ hi _ e)
  cases p with
  | one e => exact h1 _ e
  | cons e p => exact key p (h1 _ e)
/-! ### the least graph is least -/
theorem DF.pre {g : List Nd} {K : List Nat} {fs w fs' : List Nat} (d : DF g K fs w fs') : ∃ xs, fs' = fs ++ xs := by
  induction d with
  | nil => exact ⟨[], by simp⟩
  | seen _ _ ih => exact ih
  | new _ _ ih =>
    obtain ⟨xs, e⟩ := ih
    exact ⟨_, by rw [e, List.append_assoc]⟩
theorem relN_head {f : Nat → Nat} {x : Nd} : (relN f x).head = x.head := by cases x <;> simp [relN, Nd.head]
theorem relN_parts {f : Nat → Nat} {x : Nd} : (relN f x).parts = x.parts.map f := by cases x <;> simp [relN, Nd.parts]
section
variable {g : List Nd} (hg : okG g) (h0 : 0 < g.length)
include hg h0
theorem firsts_ok : (firstsL g)[0]? = some 0 ∧ (∀ a ∈ firstsL g, a < g.length) ∧ (∀ a ∈ firstsL g, ∀ j ∈ ptsOf g a, (ordOf (clsL g) (firstsL g) j).isSome = true) ∧ ((firstsL g).map (kd (clsL g))).Nodup := by
  have hD : DF g (clsL g) [] [0] (firstsL g) := firstsK_DF hg h0
  refine ⟨?_, hD.lt hg (by simp) (by simpa using h0), hD.closed (by simp), hD.nd (by simp)⟩
  cases hD with
  | seen h _ => simp [ordOf, ixOf] at h
  | new _ d =>
    obtain ⟨xs, e⟩ := d.pre
    rw [e]
    rfl
theorem leastL_at {i : Nat} (hi : i < (firstsL g).length) : (leastL g).getD i default = relN (fun j => (ordOf (clsL g) (firstsL g) j).getD 0) (g.getD (firstsL g)[i] default) := by
  rw [leastL, List.getD_eq_getElem?_getD, List.getElem?_map, List.getElem?_eq_getElem hi]
  exact relab_N
theorem leastL_lenF : (leastL g).length = (firstsL g).length := by rw [leastL, List.length_map]
theorem leastL_len2 : (leastL g).length ≤ g.length ∧ 0 < (leastL g).length := by
  obtain ⟨h1, h2, h3, h4⟩ := firsts_ok hg h0
  rw [leastL_lenF hg h0]
  refine ⟨?_, (List.getElem?_eq_some_iff.mp h1).1⟩
  refine nodup_lt ?_ h2
  rw [List.Nodup, List.pairwise_map] at h4
  exact List.Pairwise.imp (fun h e => h (by rw [e])) h4
theorem leastL_okG : okG (leastL g) := by
  obtain ⟨h1, h2, h3, h4⟩ := firsts_ok hg h0
  intro x hx
  rw [leastL] at hx
  obtain ⟨a, ha, rfl⟩ := List.mem_map.mp hx
  rw [leastL_lenF hg h0, relab_N, relN_parts]
  have hp := parts_lt hg (h2 a ha)
  refine ⟨by rw [List.length_map]; exact hp.1, fun j hj => ?_⟩
  obtain ⟨u, hu, rfl⟩ := List.mem_map.mp hj
  obtain ⟨k, hk⟩ := Option.isSome_iff_exists.mp (h3 a ha u hu)
  rw [hk]
  exact ord_lt hk
theorem leastL_pl (hpl : ∀ x ∈ g, pl 5 x.pv = true) : ∀ x ∈ leastL g, pl 5 x.pv = true := by
  obtain ⟨h1, h2, h3, h4⟩ := firsts_ok hg h0
  intro x hx
  rw [leastL] at hx
  obtain ⟨a, ha, rfl⟩ := List.mem_map.mp hx
  have hm : g.getD a default ∈ g := by
    rw [List.getD_eq_getElem?_getD, List.getElem?_eq_getElem (h2 a ha)]
    exact List.getElem_mem _
  have := hpl _ hm
  rw [relab_N]
  revert this
  cases g.getD a default with
  | tup c ps =>
    intro h
    simp only [relN, Nd.pv, pl, pls, Bool.and_eq_true, Bool.and_true] at h ⊢
    exact ⟨h.1, h.2.1, pls_ints⟩
  | _ => exact fun h => h
/-- the least graph and the graph -/
def lB (g : List Nd) (i j : Nat) : Prop := ∃ a, (firstsL g)[i]? = some a ∧ j < g.length ∧ at0 (clsL g) a = at0 (clsL g) j
theorem lB_bis : Bis (leastL g) g (lB g) := by
  obtain ⟨h1, h2, h3, h4⟩ := firsts_ok hg h0
  have hF := clsL_fin hg h0
  refine ⟨?_, ?_, ?_⟩
  · rintro i j ⟨a, ha, hj, e⟩
    exact ⟨by rw [leastL_lenF hg h0]; exact (List.getElem?_eq_some_iff.mp ha).1, hj⟩
  · rintro i j ⟨a, ha, hj, e⟩
    obtain ⟨hi, ea⟩ := List.getElem?_eq_some_iff.mp ha
    rw [leastL_at hg h0 hi, relN_head, ea]
    exact ((hF.iff a j (h2 a (List.mem_of_getElem? ha)) hj).mp e 1).1
  · rintro i j ⟨a, ha, hj, e⟩ k u v hu hv
    obtain ⟨hi, ea⟩ := List.getElem?_eq_some_iff.mp ha
    have hal := h2 a (List.mem_of_getElem? ha)
    unfold ptsOf at hu
    rw [leastL_at hg h0 hi, relN_parts, ea, List.getElem?_map, Option.map_eq_some_iff] at hu
    obtain ⟨x, hx, rfl⟩ := hu
    have hxm := List.mem_of_getElem? hx
    obtain ⟨m, hm⟩ := Option.isSome_iff_exists.mp (h3 a (List.mem_of_getElem? ha) x hxm)
    rw [hm]
    have hs := ixOf_sound hm
    rw [List.getElem?_map, Option.map_eq_some_iff] at hs
    obtain ⟨y, hy, ey⟩ := hs
    have hvl := (parts_lt hg hj).2 v (List.mem_of_getElem? hv)
    have hxl := (parts_lt hg hal).2 x hxm
    refine ⟨y, hy, hvl, ?_⟩
    have e2 : at0 (clsL g) x = at0 (clsL g) v := (hF.iff x v hxl hvl).mpr fun q => ((hF.iff a j hal hj).mp e (q + 1)).2 k x v hx hv
    rw [← e2]
    exact kd_iff.mp ey
theorem leastL_idem : leastL (leastL g) = leastL g := by
  obtain ⟨h1, h2, h3, h4⟩ := firsts_ok hg h0
  exact leastL_bis (lB_bis hg h0) ⟨0, h1, h0, rfl⟩ (leastL_okG hg h0) hg
end
end LD
set_option maxRecDepth 100000
namespace LD
open L3
local macro_rules | `(tactic| walk_at "e") => `(tactic| try simp -dsimp only [↓y_cons, ↓y_if, ↓y_asub, ↓W_rt, ↓W_ex, ↓W_fr, ↓W_lc, ↓W_pass, ↓W_brk, ↓W_cnt, ↓W_retn, ↓W_nil, ↓nxt_nx, ↓nxt_rt, ↓nxt_bk, ↓nxt_ct, ↓retK_rt, ↓retK_nx, ↓e_con, ↓e_glo, ↓e_tup, ↓e_lst, ↓e_bin, ↓e_negi, ↓e_nt, ↓T_idx, ↓T_cal, ↓T_bf, ↓T_bin, ↓T_tup, ↓T_fld, ↓T_mth, ↓T_ife, ↓T_var, ↓T_glo, ↓T_con, ↓T_cmp, ↓T_chn, ↓T_isi, ↓T_nt, ↓T_and, ↓T_or, ↓e_and, ↓e_or, ↓e_ife, ↓e_cmp, ↓e_chn, ↓e_idx, ↓e_slc, ↓e_fld, ↓e_cal, ↓e_mth, ↓e_dnew, ↓e_lens, ↓m_fn, ↓Iq_R, ↓e_bf1, ↓e_bf, ↓e_isi, ↓es_nil, ↓es_cons, ↓eo_no, ↓i_seq, ↓q_tup, ↓q_rol, ↓q_str, ↓o_addi, ↓o_subi, ↓o_p9, ↓o_slct, ↓u_lenT, ↓u_lenC, ↓u_int, ↓u_abs, ↓u_max, ↓u_min, ↓u_tupT, ↓u_lstT, ↓u_lstC, ↓Br_t, ↓Br_f, ↓Br_n, ↓Tq_bl, ↓Tq_int, ↓Tq_tup, ↓Tq_rol, ↓Tq_non, ↓Gq_s, ↓Yq_non, ↓Yq_bl, ↓Yq_int, ↓Yq_str, ↓Yq_tup, ↓Yq_rol, ↓Cq_isnn, ↓Cq_isN, ↓Iq_T, ↓Iq_C, ↓Cq_eqi, ↓Cq_nei, ↓Cq_eqs, ↓Cq_nes, ↓Cq_eqb, ↓Cq_neb, ↓Cq_lti, ↓Cq_lei, ↓Cq_gti, ↓Cq_gei, ↓Cq_isb, ↓Cq_isnb, ↓Cq_lts, ↓Cq_inn1, ↓Cq_nin1, ↓v_0, ↓n_0, ↓g_0, ↓t_0, ↓v_1, ↓n_1, ↓g_1, ↓t_1, ↓v_2, ↓n_2, ↓g_2, ↓t_2, ↓v_3, ↓n_3, ↓g_3, ↓t_3, ↓v_4, ↓n_4, ↓g_4, ↓t_4, ↓v_5, ↓n_5, ↓g_5, ↓t_5, ↓v_6, ↓n_6, ↓g_6, ↓t_6, ↓v_7, ↓n_7, ↓g_7, ↓t_7, ↓v_8, ↓n_8, ↓g_8, ↓t_8, ↓v_9, ↓n_9, ↓g_9, ↓t_9, ↓v_10, ↓n_10, ↓g_10, ↓t_10, ↓v_11, ↓n_11, ↓g_11, ↓t_11, ↓v_12, ↓n_12, ↓g_12, ↓t_12, ↓v_13, ↓n_13, ↓g_13, ↓t_13, Iq_R, Br_t, Br_f, Br_n, Tq_bl, Tq_int, Tq_tup, Tq_rol, Tq_non, Gq_s, Yq_non, Yq_bl, Yq_int, Yq_str, Yq_tup, Yq_rol, Cq_isnn, Cq_isN, Iq_T, Iq_C, Cq_eqi, Cq_nei, Cq_eqs, Cq_nes, Cq_eqb, Cq_neb, Cq_lti, Cq_lei, Cq_gti, Cq_gei, Cq_isb, Cq_isnb, Cq_lts, Cq_inn1, Cq_nin1, e_neg, eo_ex, i_rng, i_rng2, y_aug, at_0, at_1, at_2, at_3, cxF_T, cxF_call, Bool.not_true, Bool.not_false, Bool.false_eq_true, if_true, if_false, tyB, PV.int.injEq, exists_eq_left, exists_eq_left', List.isEmpty_nil, List.isEmpty_cons, List.length_cons, List.length_nil, List.map_cons, List.map_nil, Option.map_some, startEnv, List.replicate, List.cons_append, List.nil_append, PV.int.injEq, ↓cG, ↓e_ddis, ↓y_afld, ↓y_atup, ↓t_tup, ↓ts_nil, ↓ts_cons, ↓e_dget1, ↓e_dget2, ↓e_dset, ↓e_lzip, ↓e_rev, ↓i_enum, ↓y_augs, ↓y_try, ↓y_rai, ↓h_nil, ↓h_ret, ↓h_isi, ↓e_ddist, ↓e_kdi, ↓e_lrng, ↓i_zip, ↓i_rvd, ↓y_del, ↓e_negU, ↓y_augf, ↓v_14, ↓n_14, ↓g_14, ↓t_14, ↓v_15, ↓n_15, ↓g_15, ↓t_15, ↓v_16, ↓n_16, ↓g_16, ↓t_16, ↓v_17, ↓n_17, ↓g_17, ↓t_17, ↓v_18, ↓n_18, ↓g_18, ↓t_18, ↓v_19, ↓n_19, ↓g_19, ↓t_19, ↓v_20, ↓n_20, ↓g_20, ↓t_20, ↓v_21, ↓n_21, ↓g_21, ↓t_21, ↓v_22, ↓n_22, ↓g_22, ↓t_22, ↓v_23, ↓n_23, ↓g_23, ↓t_23, u_intB, o_muli, o_modi, o_fdivi, cG, k_ix, ixO_L, ixO_D, ixO_F, k_sx, k_sf, k_fld, k_tr, k_ty, k_in, k_nin, k_int_i, k_int_s, k_int_b, k_int_n, k_nint, k_inr, k_ninr, k_len, k_tuple, k_list, k_sorted, k_min, k_q, k_lens, k_add, k_mul, k_slc, k_mth, mqO_L, lm_app, lm_ext, lm_pop, k_app, k_extT, k_extL, k_pop, k_isd, k_dget, k_dset, k_lzip, k_revT, k_revL, k_enT, k_enL, o_subb, k_ltT, k_gtT, k_ltL, k_lrng, k_zip, Uq_i, t_tupL, lm_idx, k_idx, k_del, k_mthS, sm_join, sm_sw, sm_low, k_join, k_sw, u_strS, k_pop0, nJ_nx, nJ_rt, nJ_bk, nJ_ct, inL_t, inL_i, inL_s, inL_b, inL_n, wipe_1, wipe_nil, app_0, app_k, sapp_0, sapp_k, List.getElem?_cons_zero, List.getElem?_cons_succ, List.set_cons_zero, List.set_cons_succ, List.append_assoc, List.length_append, Nat.reduceAdd, glob_MOST_NODES, g_MOST_NODES])
local macro_rules | `(tactic| walk_at "s") => `(tactic| try simp -dsimp only [↓y_cons, ↓y_if, ↓y_asub, ↓W_rt, ↓W_ex, ↓W_fr, ↓W_lc, ↓W_pass, ↓W_brk, ↓W_cnt, ↓W_retn, ↓W_nil, ↓nxt_nx, ↓nxt_rt, ↓nxt_bk, ↓nxt_ct, ↓retK_rt, ↓retK_nx, ↓e_con, ↓e_glo, ↓e_tup, ↓e_lst, ↓e_bin, ↓e_negi, ↓e_nt, ↓T_idx, ↓T_cal, ↓T_bf, ↓T_bin, ↓T_tup, ↓T_fld, ↓T_mth, ↓T_ife, ↓T_var, ↓T_glo, ↓T_con, ↓T_cmp, ↓T_chn, ↓T_isi, ↓T_nt, ↓T_and, ↓T_or, ↓e_and, ↓e_or, ↓e_ife, ↓e_cmp, ↓e_chn, ↓e_idx, ↓e_slc, ↓e_fld, ↓e_cal, ↓e_mth, ↓e_dnew, ↓e_lens, ↓m_fn, ↓Iq_R, ↓e_bf1, ↓e_bf, ↓e_isi, ↓es_nil, ↓es_cons, ↓eo_no, ↓i_seq, ↓q_tup, ↓q_rol, ↓q_str, ↓o_addi, ↓o_subi, ↓o_p9, ↓o_slct, ↓u_lenT, ↓u_lenC, ↓u_int, ↓u_abs, ↓u_max, ↓u_min, ↓u_tupT, ↓u_lstT, ↓u_lstC, ↓Br_t, ↓Br_f, ↓Br_n, ↓Tq_bl, ↓Tq_int, ↓Tq_tup, ↓Tq_rol, ↓Tq_non, ↓Gq_s, ↓Yq_non, ↓Yq_bl, ↓Yq_int, ↓Yq_str, ↓Yq_tup, ↓Yq_rol, ↓Cq_isnn, ↓Cq_isN, ↓Iq_T, ↓Iq_C, ↓Cq_eqi, ↓Cq_nei, ↓Cq_eqs, ↓Cq_nes, ↓Cq_eqb, ↓Cq_neb, ↓Cq_lti, ↓Cq_lei, ↓Cq_gti, ↓Cq_gei, ↓Cq_isb, ↓Cq_isnb, ↓Cq_lts, ↓Cq_inn1, ↓Cq_nin1, ↓v_0, ↓n_0, ↓g_0, ↓t_0, ↓v_1, ↓n_1, ↓g_1, ↓t_1, ↓v_2, ↓n_2, ↓g_2, ↓t_2, ↓v_3, ↓n_3, ↓g_3, ↓t_3, ↓v_4, ↓n_4, ↓g_4, ↓t_4, ↓v_5, ↓n_5, ↓g_5, ↓t_5, ↓v_6, ↓n_6, ↓g_6, ↓t_6, ↓v_7, ↓n_7, ↓g_7, ↓t_7, ↓v_8, ↓n_8, ↓g_8, ↓t_8, ↓v_9, ↓n_9, ↓g_9, ↓t_9, ↓v_10, ↓n_10, ↓g_10, ↓t_10, ↓v_11, ↓n_11, ↓g_11, ↓t_11, ↓v_12, ↓n_12, ↓g_12, ↓t_12, ↓v_13, ↓n_13, ↓g_13, ↓t_13, Iq_R, Br_t, Br_f, Br_n, Tq_bl, Tq_int, Tq_tup, Tq_rol, Tq_non, Gq_s, Yq_non, Yq_bl, Yq_int, Yq_str, Yq_tup, Yq_rol, Cq_isnn, Cq_isN, Iq_T, Iq_C, Cq_eqi, Cq_nei, Cq_eqs, Cq_nes, Cq_eqb, Cq_neb, Cq_lti, Cq_lei, Cq_gti, Cq_gei, Cq_isb, Cq_isnb, Cq_lts, Cq_inn1, Cq_nin1, e_neg, eo_ex, i_rng, i_rng2, y_aug, at_0, at_1, at_2, at_3, cxF_T, cxF_call, Bool.not_true, Bool.not_false, Bool.false_eq_true, if_true, if_false, tyB, PV.int.injEq, exists_eq_left, exists_eq_left', List.isEmpty_nil, List.isEmpty_cons, List.length_cons, List.length_nil, List.map_cons, List.map_nil, Option.map_some, startEnv, List.replicate, List.cons_append, List.nil_append, PV.int.injEq, ↓cG, ↓e_ddis, ↓y_afld, ↓y_atup, ↓t_tup, ↓ts_nil, ↓ts_cons, ↓e_dget1, ↓e_dget2, ↓e_dset, ↓e_lzip, ↓e_rev, ↓i_enum, ↓y_augs, ↓y_try, ↓y_rai, ↓h_nil, ↓h_ret, ↓h_isi, ↓e_ddist, ↓e_kdi, ↓e_lrng, ↓i_zip, ↓i_rvd, ↓y_del, ↓e_negU, ↓y_augf, ↓v_14, ↓n_14, ↓g_14, ↓t_14, ↓v_15, ↓n_15, ↓g_15, ↓t_15, ↓v_16, ↓n_16, ↓g_16, ↓t_16, ↓v_17, ↓n_17, ↓g_17, ↓t_17, ↓v_18, ↓n_18, ↓g_18, ↓t_18, ↓v_19, ↓n_19, ↓g_19, ↓t_19, ↓v_20, ↓n_20, ↓g_20, ↓t_20, ↓v_21, ↓n_21, ↓g_21, ↓t_21, ↓v_22, ↓n_22, ↓g_22, ↓t_22, ↓v_23, ↓n_23, ↓g_23, ↓t_23, u_intB, o_muli, o_modi, o_fdivi, cG, k_ix, ixO_L, ixO_D, ixO_F, k_sx, k_sf, k_fld, k_tr, k_ty, k_in, k_nin, k_int_i, k_int_s, k_int_b, k_int_n, k_nint, k_inr, k_ninr, k_len, k_tuple, k_list, k_sorted, k_min, k_q, k_lens, k_add, k_mul, k_slc, k_mth, mqO_L, lm_app, lm_ext, lm_pop, k_app, k_extT, k_extL, k_pop, k_isd, k_dget, k_dset, k_lzip, k_revT, k_revL, k_enT, k_enL, o_subb, k_ltT, k_gtT, k_ltL, k_lrng, k_zip, Uq_i, t_tupL, lm_idx, k_idx, k_del, k_mthS, sm_join, sm_sw, sm_low, k_join, k_sw, u_strS, k_pop0, nJ_nx, nJ_rt, nJ_bk, nJ_ct, inL_t, inL_i, inL_s, inL_b, inL_n, wipe_1, wipe_nil, app_0, app_k, sapp_0, sapp_k, List.getElem?_cons_zero, List.getElem?_cons_succ, List.set_cons_zero, List.set_cons_succ, List.append_assoc, List.length_append, Nat.reduceAdd, glob_MOST_NODES, g_MOST_NODES, *])
local macro_rules | `(tactic| walk_at "b") => `(tactic| first | (refine Br_d (fun h => ?_) (fun h => ?_) <;> walk_at "e") | (refine Br_e (fun h => ?_) (fun h => ?_) <;> walk_at "e") | (refine Br_i (fun h => ?_) (fun h => ?_) <;> walk_at "e"))
local macro_rules | `(tactic| walk_at "k") => `(tactic| first | (refine Br_e (fun h => absurd h (by decide)) (fun _ => ?_)) | (refine Br_d (fun h => absurd h (by decide)) (fun _ => ?_)) | (refine Br_e (fun _ => ?_) (fun h => absurd rfl h)) | (refine Br_d (fun _ => ?_) (fun h => absurd (by decide) h)) | (refine Br_e (fun _ => ?_) (fun h => absurd (by decide) h)) | (refine Br_d (fun h => absurd h (by omega)) (fun _ => ?_)) | (refine Br_d (fun _ => ?_) (fun h => absurd (by omega) h)) | (refine Br_e (fun h => absurd h (by omega)) (fun _ => ?_)) | (refine Br_e (fun _ => ?_) (fun h => absurd (by omega) h)))
/-! ### the order of nodes -/
def kR : Nd → Int
  | .var _ => 0 | .int _ => 1 | .atom _ => 2 | .tup _ _ => 3 | .name _ _ => 4
def kN : Nd → Int
  | .var n => n | .int n => n | .atom _ => 0 | .tup _ ps => ps.length | .name _ _ => 0
def kS : Nd → Sy
  | .var _ => [] | .int _ => [] | .atom a => a | .tup a _ => a | .name a _ => a
def kM : Nd → Int
  | .name _ n => n
  | _ => 0
def lt3 (x y : Nd) : Bool := if kR x = kR y then (if kN x = kN y then (if kS x = kS y then false else ltSy (kS x) (kS y)) else decide (kN x < kN y)) else decide (kR x < kR y)
def lt4 (x y : Nd) : Bool := if kR x = kR y then (if kN x = kN y then (if kS x = kS y then (if kM x = kM y then false else decide (kM x < kM y)) else ltSy (kS x) (kS y)) else decide (kN x < kN y)) else decide (kR x < kR y)
/-- alike by themselves -/
def eqK (x y : Nd) : Prop := kR x = kR y ∧ kN x = kN y ∧ kS x = kS y ∧ kM x = kM y
instance (x y : Nd) : Decidable (eqK x y) := by unfold eqK; infer_instance
def cmpN (x y : Nd) : Int := if lt4 x y then -1 else if lt4 y x then 1 else 0
theorem ltSy_tri : ∀ {a b : Sy}, a ≠ b → ltSy b a = !ltSy a b
  | [], [], h => absurd rfl h
  | [], _ :: _, _ => by simp [ltSy]
  | _ :: _, [], _ => by simp [ltSy]
  | x :: a, y :: b, h => by
    unfold ltSy
    by_cases h1 : x < y
    · have : ¬ y < x := by omega
      simp [h1, this]
    · by_cases h2 : y < x
      · simp [h1, h2]
      · have e : x = y := by omega
        subst e
        simp only [h1, if_false]
        exact ltSy_tri (fun e => h (by rw [e]))
theorem ltSy_irr : ∀ {a : Sy}, ltSy a a = false
  | [] => rfl
  | x :: a => by
    unfold ltSy
    simp [ltSy_irr (a := a)]
theorem ltSy_trans : ∀ {a b c : Sy}, ltSy a b = true → ltSy b c = true → ltSy a c = true
  | a, [], _, h, _ => by cases a <;> simp [ltSy] at h
  | [], y :: b, [], _, h => by simp [ltSy] at h
  | _ :: _, y :: b, [], _, h => by simp [ltSy] at h
  | [], y :: b, z :: c, _, _ => rfl
  | x :: a, y :: b, z :: c, h1, h2 => by
    unfold ltSy at h1 h2 ⊢
    by_cases q1 : x < y
    · by_cases q2 : y < z
      · have : x < z := by omega
        simp [this]
      · by_cases q3 : z < y
        · simp [q2, q3] at h2
        · have : x < z := by omega
          simp [this]
    · by_cases q4 : y < x
      · simp [q1, q4] at h1
      · have e : x = y := by omega
        subst e
        simp only [q1, if_false] at h1
        by_cases q2 : x < z
        · simp [q2]
        · by_cases q3 : z < x
          · simp [q2, q3] at h2
          · simp only [q2, q3, if_false] at h2 ⊢
            exact ltSy_trans h1 h2
theorem lt4_tri {x y : Nd} (h : ¬ eqK x y) : lt4 y x = !lt4 x y := by
  unfold lt4
  by_cases h1 : kR x = kR y
  · rw [if_pos h1, if_pos h1.symm]
    by_cases h2 : kN x = kN y
    · rw [if_pos h2, if_pos h2.symm]
      by_cases h3 : kS x = kS y
      · rw [if_pos h3, if_pos h3.symm]
        by_cases h4 : kM x = kM y
        · exact absurd ⟨h1, h2, h3, h4⟩ h
        · rw [if_neg h4, if_neg (Ne.symm h4), Bool.eq_iff_iff]
          simp
          omega
      · rw [if_neg h3, if_neg (Ne.symm h3)]
        exact ltSy_tri h3
    · rw [if_neg h2, if_neg (Ne.symm h2), Bool.eq_iff_iff]
      simp
      omega
  · rw [if_neg h1, if_neg (Ne.symm h1), Bool.eq_iff_iff]
    simp
    omega
theorem lt4_eq {x y : Nd} (h : eqK x y) : lt4 x y = false := by
  unfold lt4
  rw [if_pos h.1, if_pos h.2.1, if_pos h.2.2.1, if_pos h.2.2.2]
theorem eqK.symm {x y : Nd} (h : eqK x y) : eqK y x := ⟨h.1.symm, h.2.1.symm, h.2.2.1.symm, h.2.2.2.symm⟩
theorem cmpN_0 {x y : Nd} : cmpN x y = 0 ↔ eqK x y := by
  unfold cmpN
  by_cases h : eqK x y
  · rw [lt4_eq h, lt4_eq h.symm]
    simp [h]
  · rw [lt4_tri h]
    cases lt4 x y <;> simp [h]
theorem cmpN_swap {x y : Nd} : cmpN y x = -cmpN x y := by
  unfold cmpN
  by_cases h : eqK x y
  · rw [lt4_eq h, lt4_eq h.symm]
    rfl
  · rw [lt4_tri h]
    cases lt4 x y <;> simp
theorem cmpN_lt {x y : Nd} : cmpN x y = -1 ↔ lt4 x y = true := by
  unfold cmpN
  cases h : lt4 x y with
  | true => simp
  | false => cases lt4 y x <;> simp
theorem cmpN_3 {x y : Nd} : cmpN x y = -1 ∨ cmpN x y = 0 ∨ cmpN x y = 1 := by
  unfold cmpN
  cases lt4 x y <;> cases lt4 y x <;> simp
/-! ### by pairs -/
def addP (rows : List (Nat × Nat)) (p : Nat × Nat) : List (Nat × Nat) := if p ∈ rows then rows else rows ++ [p]
def nxR (g h : List Nd) (rows : List (Nat × Nat)) (p : Nat × Nat) : List (Nat × Nat) := ((g.getD p.1 default).parts.zip (h.getD p.2 default).parts).foldl addP rows
def cmpGo (g h : List Nd) : Nat → List (Nat × Nat) → Nat → Int
  | 0, _, _ => 0
  | F + 1, rows, a => match rows[a]? with
    | none => 0
    | some p => if cmpN (g.getD p.1 default) (h.getD p.2 default) = 0 then cmpGo g h F (nxR g h rows p) (a + 1) else cmpN (g.getD p.1 default) (h.getD p.2 default)
def cmpL (g h : List Nd) : Int := cmpGo g h (g.length * h.length + 1) [(0, 0)] 0
theorem cmpGo_3 {g h : List Nd} : ∀ {F : Nat} {rows : List (Nat × Nat)} {a : Nat}, cmpGo g h F rows a = -1 ∨ cmpGo g h F rows a = 0 ∨ cmpGo g h F rows a = 1
  | 0, _, _ => .inr (.inl rfl)
  | F + 1, rows, a => by
    unfold cmpGo
    split
    · exact .inr (.inl rfl)
    · split
      · exact cmpGo_3
      · exact cmpN_3
theorem cmpL_3 {g h : List Nd} : cmpL g h = -1 ∨ cmpL g h = 0 ∨ cmpL g h = 1 := cmpGo_3
def swp (p : Nat × Nat) : Nat × Nat := (p.2, p.1)
theorem swp_inj {p q : Nat × Nat} (h : swp p = swp q) : p = q := by
  cases p; cases q; simp [swp] at h; simp [h]
theorem swp_mem {rows : List (Nat × Nat)} {p : Nat × Nat} : swp p ∈ rows.map swp ↔ p ∈ rows := by
  rw [List.mem_map]
  constructor
  · rintro ⟨q, hq, e⟩
    rwa [← swp_inj e]
  · exact fun h => ⟨p, h, rfl⟩
theorem addP_swp {rows : List (Nat × Nat)} {p : Nat × Nat} : addP (rows.map swp) (swp p) = (addP rows p).map swp := by
  unfold addP
  by_cases h : p ∈ rows
  · rw [if_pos h, if_pos (swp_mem.mpr h)]
  · rw [if_neg h, if_neg (fun z => h (swp_mem.mp z)), List.map_append]
    rfl
theorem fold_swp : ∀ {ps : List (Nat × Nat)} {rows : List (Nat × Nat)}, (ps.map swp).foldl addP (rows.map swp) = (ps.foldl addP rows).map swp
  | [], _ => rfl
  | p :: ps, rows => by
    rw [List.map_cons, List.foldl_cons, List.foldl_cons, addP_swp]
    exact fold_swp
theorem zip_swp : ∀ {ps qs : List Nat}, qs.zip ps = (ps.zip qs).map swp
  | [], qs => by cases qs <;> rfl
  | _ :: _, [] => rfl
  | p :: ps, q :: qs => by simp [zip_swp (ps := ps) (qs := qs), swp]
theorem cmpGo_swp {g h : List Nd} : ∀ {F : Nat} {rows : List (Nat × Nat)} {a : Nat}, cmpGo h g F (rows.map swp) a = -cmpGo g h F rows a
  | 0, _, _ => rfl
  | F + 1, rows, a => by
    unfold cmpGo
    rw [List.getElem?_map]
    cases hr : rows[a]? with
    | none => rfl
    | some p =>
      simp only [Option.map_some, swp]
      have e : cmpN (h.getD p.2 default) (g.getD p.1 default) = -cmpN (g.getD p.1 default) (h.getD p.2 default) := cmpN_swap
      by_cases h0 : cmpN (g.getD p.1 default) (h.getD p.2 default) = 0
      · rw [if_pos h0, if_pos (by rw [e, h0]; rfl)]
        have e2 : nxR h g (rows.map swp) (p.2, p.1) = (nxR g h rows p).map swp := by
          unfold nxR
          rw [zip_swp]
          exact fold_swp
        rw [e2]
        exact cmpGo_swp
      · rw [if_neg h0, if_neg (by rw [e]; omega), e]
theorem cmpL_swp {g h : List Nd} : cmpL h g = -cmpL g h := by
  unfold cmpL
  rw [Nat.mul_comm]
  exact cmpGo_swp (rows := [(0, 0)])
theorem cmpL_self {g : List Nd} : cmpL g g = 0 := by
  have h := cmpL_swp (g := g) (h := g)
  omega
/-! ### rows -/
structure okR (n m : Nat) (rows : List (Nat × Nat)) : Prop where
  nd : rows.Nodup
  lt : ∀ p ∈ rows, p.1 < n ∧ p.2 < m
theorem nodup_ltO {l : List Nat} {n : Nat} (h : l.Nodup) (hl : ∀ x ∈ l, x < n) : l.length ≤ n := by
  induction n generalizing l with
  | zero =>
    cases l with
    | nil => exact Nat.le_refl _
    | cons x l => exact absurd (hl x List.mem_cons_self) (by omega)
  | succ n ih =>
    have h1 := ih (l := l.erase n) (h.erase n) (fun x hx => by
      have h2 := hl x (List.mem_of_mem_erase hx)
      have : x ≠ n := fun e => by
        subst e
        exact (List.Nodup.mem_erase_iff h).mp hx |>.1 rfl
      omega)
    by_cases hm : n ∈ l
    · rw [List.length_erase_of_mem hm] at h1
      omega
    · rw [List.erase_of_not_mem hm] at h1
      omega
theorem okR.len {n m : Nat} {rows : List (Nat × Nat)} (h : okR n m rows) : rows.length ≤ n * m := by
  have e : rows.length = (rows.map fun p => p.1 * m + p.2).length := by simp
  rw [e]
  refine nodup_ltO ?_ fun x hx => ?_
  · refine List.pairwise_map.mpr (List.Pairwise.imp_of_mem (fun {a b} ha hb hab e => hab ?_) h.nd)
    have h1 := (h.lt a ha).2
    have h2 := (h.lt b hb).2
    have d1 : (a.1 * m + a.2) / m = a.1 := by
      rw [Nat.add_comm, Nat.add_mul_div_right _ _ (by omega), Nat.div_eq_of_lt h1]
      omega
    have d2 : (b.1 * m + b.2) / m = b.1 := by
      rw [Nat.add_comm, Nat.add_mul_div_right _ _ (by omega), Nat.div_eq_of_lt h2]
      omega
    have e1 : a.1 = b.1 := by rw [← d1, ← d2, e]
    rw [e1] at e
    have e2 : a.2 = b.2 := by omega
    cases a; cases b
    simp_all
  · obtain ⟨p, hp, rfl⟩ := List.mem_map.mp hx
    obtain ⟨h1, h2⟩ := h.lt p hp
    show p.1 * m + p.2 < n * m
    have : (p.1 + 1) * m ≤ n * m := Nat.mul_le_mul_right m h1
    rw [Nat.add_mul] at this
    omega
theorem okR.add {n m : Nat} {rows : List (Nat × Nat)} {p : Nat × Nat} (h : okR n m rows) (hp : p.1 < n ∧ p.2 < m) : okR n m (addP rows p) := by
  unfold addP
  split
  · exact h
  · rename_i hn
    refine ⟨?_, fun q hq => ?_⟩
    · rw [List.nodup_append]
      refine ⟨h.nd, by simp, fun a ha b hb e => hn ?_⟩
      rw [List.mem_singleton] at hb
      rw [← hb, ← e]
      exact ha
    · rcases List.mem_append.mp hq with hq | hq
      · exact h.lt q hq
      · rw [List.mem_singleton.mp hq]
        exact hp
theorem okR.fold {n m : Nat} : ∀ {ps : List (Nat × Nat)} {rows : List (Nat × Nat)}, okR n m rows → (∀ p ∈ ps, p.1 < n ∧ p.2 < m) → okR n m (ps.foldl addP rows)
  | [], _, h, _ => h
  | p :: ps, rows, h, hp => okR.fold (ps := ps) (rows := addP rows p) (h.add (hp p List.mem_cons_self)) fun q hq => hp q (List.mem_cons_of_mem _ hq)
theorem okR.one {n m : Nat} (h1 : 0 < n) (h2 : 0 < m) : okR n m [(0, 0)] := ⟨by simp, fun p hp => by rw [List.mem_singleton.mp hp]; exact ⟨h1, h2⟩⟩
theorem partsO_lt {g : List Nd} (hg : okG g) {i : Nat} (hi : i < g.length) : (g.getD i default).parts.length ≤ 1000 ∧ ∀ j ∈ (g.getD i default).parts, j < g.length := by
  have : g.getD i default ∈ g := by
    rw [List.getD_eq_getElem?_getD, List.getElem?_eq_getElem hi]
    exact List.getElem_mem _
  exact hg _ this
theorem zip_lt {g h : List Nd} (hg : okG g) (hh : okG h) {p : Nat × Nat} (h1 : p.1 < g.length ∧ p.2 < h.length) : ∀ q ∈ (g.getD p.1 default).parts.zip (h.getD p.2 default).parts, q.1 < g.length ∧ q.2 < h.length := fun q hq => by
  obtain ⟨a, b⟩ := q
  have := List.of_mem_zip hq
  exact ⟨(partsO_lt hg h1.1).2 _ this.1, (partsO_lt hh h1.2).2 _ this.2⟩
theorem okR.nx {g h : List Nd} {rows : List (Nat × Nat)} {p : Nat × Nat} (hg : okG g) (hh : okG h) (hr : okR g.length h.length rows) (hp : p ∈ rows) : okR g.length h.length (nxR g h rows p) := hr.fold (zip_lt hg hh (hr.lt p hp))
theorem fold_len : ∀ {ps : List (Nat × Nat)} {rows : List (Nat × Nat)}, rows.length ≤ (ps.foldl addP rows).length
  | [], _ => Nat.le_refl _
  | p :: ps, rows => by
    rw [List.foldl_cons]
    refine Nat.le_trans ?_ fold_len
    unfold addP
    split <;> simp
def pr (p : Nat × Nat) : PV := .tup [pvI p.1, pvI p.2]
theorem pr_inj {p q : Nat × Nat} (h : pr p = pr q) : p = q := by
  cases p; cases q
  simp [pr, pvI] at h
  simp only [Prod.mk.injEq]
  omega
theorem zipP_pr : ∀ {ps qs : List Nat}, zipP (ps.map pvI) (qs.map pvI) = (ps.zip qs).map pr
  | [], qs => by cases qs <;> rfl
  | _ :: _, [] => rfl
  | p :: ps, q :: qs => by simp [zipP, zipP_pr (ps := ps) (qs := qs), pr]
/-- the dict of the pairs that are met -/
def sD (rows : List (Nat × Nat)) : List (PV × PV) := rows.map fun p => (pr p, .bl true)
theorem dget_sD : ∀ {rows : List (Nat × Nat)} {p : Nat × Nat}, dget (sD rows) (pr p) = if p ∈ rows then some (.bl true) else none
  | [], p => by simp [sD, dget]
  | q :: rows, p => by
    have ih := dget_sD (rows := rows) (p := p)
    unfold sD at ih ⊢
    rw [List.map_cons]
    unfold dget
    by_cases h : q = p
    · subst h
      rw [if_pos (PV.beq_iff.mpr rfl), if_pos List.mem_cons_self]
    · rw [if_neg (fun z => h (pr_inj (PV.beq_iff.mp z))), ih]
      have : (p ∈ q :: rows) ↔ p ∈ rows := by simp [Ne.symm h]
      simp only [this]
theorem dput_sD {rows : List (Nat × Nat)} {p : Nat × Nat} (h : p ∉ rows) : dput (sD rows) (pr p) (.bl true) = sD (rows ++ [p]) := by
  unfold dput
  rw [dget_sD, if_neg h]
  simp [sD]
end LD
set_option maxRecDepth 100000
namespace LD
open L3
/-! ### cut trees, plainly -/
def isTup : Nd → Bool
  | .tup _ _ => true
  | _ => false
def cuNx (g : List Nd) (d : Nat) (rows : List (Nat × Nat)) (p : Nat × Nat) : List (Nat × Nat) := if isTup (g.getD p.1 default) = true ∧ p.2 = d then rows else ((g.getD p.1 default).parts.map fun j => (j, p.2 + 1)).foldl addP rows
def cuGo (g : List Nd) (d : Nat) : Nat → List (Nat × Nat) → Nat → List (Nat × Nat)
  | 0, rows, _ => rows
  | F + 1, rows, a => match rows[a]? with
    | none => rows
    | some p => cuGo g d F (cuNx g d rows p) (a + 1)
def cuRows (g : List Nd) (d : Nat) : List (Nat × Nat) := cuGo g d (g.length * (d + 1) + 1) [(0, 0)] 0
def cuNd (g : List Nd) (d : Nat) (rows : List (Nat × Nat)) (p : Nat × Nat) : Nd := match g.getD p.1 default with
  | .tup a ps => if p.2 = d then .atom [99, 117, 116] else .tup a (ps.map fun j => rows.idxOf (j, p.2 + 1))
  | x => x
def cutG (g : List Nd) (d : Nat) : List Nd := (cuRows g d).map (cuNd g d (cuRows g d))
theorem addP_mem {rows : List (Nat × Nat)} {p q : Nat × Nat} : q ∈ addP rows p ↔ q ∈ rows ∨ q = p := by
  unfold addP
  split
  · rename_i h
    constructor
    · exact .inl
    · rintro (h2 | rfl)
      · exact h2
      · exact h
  · simp
theorem foldP_mem : ∀ {ps rows : List (Nat × Nat)} {q : Nat × Nat}, q ∈ ps.foldl addP rows ↔ q ∈ rows ∨ q ∈ ps
  | [], rows, q => by simp
  | p :: ps, rows, q => by
    rw [List.foldl_cons, foldP_mem, addP_mem, List.mem_cons, or_assoc]
theorem foldP_pre : ∀ {ps rows : List (Nat × Nat)}, ∃ r, ps.foldl addP rows = rows ++ r
  | [], rows => ⟨[], by simp⟩
  | p :: ps, rows => by
    obtain ⟨r, hr⟩ := foldP_pre (ps := ps) (rows := addP rows p)
    rw [List.foldl_cons, hr]
    unfold addP
    split
    · exact ⟨r, rfl⟩
    · exact ⟨p :: r, by simp⟩
theorem idxOf_pre {rows r : List (Nat × Nat)} {p : Nat × Nat} (h : p ∈ rows) : (rows ++ r).idxOf p = rows.idxOf p := by
  rw [List.idxOf_append, if_pos h]
theorem idx_at {rows : List (Nat × Nat)} {p : Nat × Nat} (h : p ∈ rows) : rows[rows.idxOf p]? = some p := by
  rw [List.getElem?_eq_getElem (List.idxOf_lt_length_of_mem h), List.getElem_idxOf]
/-- rows as they come: in the graph, not deeper than d -/
structure Cu (g : List Nd) (d : Nat) (rows : List (Nat × Nat)) (a : Nat) : Prop where
  ok : okR g.length (d + 1) rows
  r0 : rows[0]? = some (0, 0)
  le : a ≤ rows.length
  cl : ∀ (b i l : Nat), b < a → rows[b]? = some (i, l) → ∀ c ps, g.getD i default = .tup c ps → l ≠ d → ∀ j ∈ ps, (j, l + 1) ∈ rows
theorem cuNx_pre {g : List Nd} {d : Nat} {rows : List (Nat × Nat)} {p : Nat × Nat} : ∃ r, cuNx g d rows p = rows ++ r := by
  unfold cuNx
  split
  · exact ⟨[], by simp⟩
  · exact foldP_pre
theorem Cu.step {g : List Nd} (hg : okG g) {d : Nat} {rows : List (Nat × Nat)} {a : Nat} {p : Nat × Nat} (h : Cu g d rows a) (hp : rows[a]? = some p) : Cu g d (cuNx g d rows p) (a + 1) := by
  obtain ⟨r, hr⟩ := cuNx_pre (g := g) (d := d) (rows := rows) (p := p)
  have hal := (List.getElem?_eq_some_iff.mp hp).1
  have hm := List.mem_of_getElem? hp
  obtain ⟨p1, p2⟩ := h.ok.lt p hm
  have hmem : ∀ q, q ∈ rows → q ∈ cuNx g d rows p := fun q hq => by rw [hr]; exact List.mem_append_left _ hq
  refine ⟨?_, ?_, ?_, fun b i l hb hbl c ps e hl j hj => ?_⟩
  · unfold cuNx
    split
    · exact h.ok
    · rename_i hne
      refine h.ok.fold fun q hq => ?_
      obtain ⟨j, hj, rfl⟩ := List.mem_map.mp hq
      refine ⟨(partsO_lt hg p1).2 j hj, ?_⟩
      have : isTup (g.getD p.1 default) = true := by
        revert hj
        cases g.getD p.1 default <;> simp [Nd.parts, isTup]
      have : p.2 ≠ d := fun z => hne ⟨this, z⟩
      simp only
      omega
  · rw [hr, List.getElem?_append_left (List.getElem?_eq_some_iff.mp h.r0).1]
    exact h.r0
  · rw [hr, List.length_append]
    omega
  · by_cases hba : b < a
    · rw [hr, List.getElem?_append_left (by omega)] at hbl
      exact hmem _ (h.cl b i l hba hbl c ps e hl j hj)
    · have : b = a := by omega
      subst this
      rw [hr, List.getElem?_append_left hal, hp] at hbl
      cases hbl
      unfold cuNx
      rw [if_neg (fun z => hl z.2), foldP_mem]
      right
      rw [e]
      exact List.mem_map.mpr ⟨j, hj, rfl⟩
theorem Cu.go {g : List Nd} (hg : okG g) {d : Nat} : ∀ {F : Nat} {rows : List (Nat × Nat)} {a : Nat}, Cu g d rows a → g.length * (d + 1) + 1 ≤ F + a → Cu g d (cuGo g d F rows a) (cuGo g d F rows a).length
  | 0, rows, a, h, hF => by
    have := h.ok.len
    have := h.le
    omega
  | F + 1, rows, a, h, hF => by
    unfold cuGo
    cases hp : rows[a]? with
    | none =>
      simp only
      have : rows.length ≤ a := List.getElem?_eq_none_iff.mp hp
      have e : a = rows.length := by have := h.le; omega
      rw [← e]
      exact h
    | some p =>
      simp only
      exact Cu.go hg (h.step hg hp) (by omega)
theorem Cu.one {g : List Nd} (g0 : 0 < g.length) {d : Nat} : Cu g d [(0, 0)] 0 := ⟨okR.one g0 (by omega), rfl, by simp, fun b i l hb => by omega⟩
theorem Cu.all {g : List Nd} (hg : okG g) (g0 : 0 < g.length) {d : Nat} : Cu g d (cuRows g d) (cuRows g d).length := Cu.go hg (Cu.one g0) (by omega)
/-- the node stays what it is when rows come behind -/
theorem cuNd_pre {g : List Nd} {d : Nat} {rows r : List (Nat × Nat)} {i l : Nat} (h : ∀ c ps, g.getD i default = .tup c ps → l ≠ d → ∀ j ∈ ps, (j, l + 1) ∈ rows) : cuNd g d (rows ++ r) (i, l) = cuNd g d rows (i, l) := by
  unfold cuNd
  cases e : g.getD i default with
  | tup c ps =>
    simp only
    split
    · rfl
    · rename_i hl
      congr 1
      exact List.map_congr_left fun j hj => idxOf_pre (h c ps e hl j hj)
  | _ => rfl
theorem cutG_len {g : List Nd} {d : Nat} : (cutG g d).length = (cuRows g d).length := by simp [cutG]
theorem cutG_at {g : List Nd} {d k : Nat} {p : Nat × Nat} (h : (cuRows g d)[k]? = some p) : (cutG g d).getD k default = cuNd g d (cuRows g d) p := by
  rw [cutG, List.getD_eq_getElem?_getD, List.getElem?_map, h]
  rfl
theorem cutG_ok {g : List Nd} (hg : okG g) (g0 : 0 < g.length) {d : Nat} : okG (cutG g d) ∧ 0 < (cutG g d).length ∧ (cutG g d).length ≤ g.length * (d + 1) := by
  have h := Cu.all hg g0 (d := d)
  refine ⟨fun x hx => ?_, ?_, ?_⟩
  · rw [cutG_len]
    unfold cutG at hx
    obtain ⟨p, hp, rfl⟩ := List.mem_map.mp hx
    obtain ⟨b, hb, eb⟩ := List.mem_iff_getElem.mp hp
    obtain ⟨p1, p2⟩ := h.ok.lt p hp
    have hpl := (partsO_lt hg p1).1
    unfold cuNd
    cases e : g.getD p.1 default with
    | tup c ps =>
      rw [e] at hpl
      simp only
      split
      · simp [Nd.parts]
      · rename_i hl
        refine ⟨by simpa [Nd.parts] using hpl, fun j hj => ?_⟩
        simp only [Nd.parts] at hj
        obtain ⟨u, hu, rfl⟩ := List.mem_map.mp hj
        exact List.idxOf_lt_length_of_mem (h.cl b p.1 p.2 hb (by rw [List.getElem?_eq_getElem hb, eb]) c ps e hl u hu)
    | _ => simp [Nd.parts]
  · rw [cutG_len]
    exact (List.getElem?_eq_some_iff.mp h.r0).1
  · rw [cutG_len]
    exact h.ok.len
theorem cutG_pl {g : List Nd} (hp : ∀ x ∈ g, pl 5 x.pv = true) {d : Nat} (hg : okG g) (g0 : 0 < g.length) : ∀ x ∈ cutG g d, pl 5 x.pv = true := by
  have h := Cu.all hg g0 (d := d)
  intro x hx
  unfold cutG at hx
  obtain ⟨p, hpm, rfl⟩ := List.mem_map.mp hx
  have hm : g.getD p.1 default ∈ g := by
    rw [List.getD_eq_getElem?_getD, List.getElem?_eq_getElem (h.ok.lt p hpm).1]
    exact List.getElem_mem _
  have := hp _ hm
  unfold cuNd
  revert this
  cases g.getD p.1 default with
  | tup c ps =>
    intro z
    simp only
    split
    · decide
    · simp only [Nd.pv, pl, pls, Bool.and_eq_true, Bool.and_true] at z ⊢
      exact ⟨z.1, z.2.1, pls_ints⟩
  | _ => exact fun z => z
/-- cut trees of one tree are one tree -/
theorem cut_bis {g h : List Nd} {B : Nat → Nat → Prop} (b : Bis g h B) (h00 : B 0 0) (hg : okG g) (hh : okG h) (g0 : 0 < g.length) (h0 : 0 < h.length) {d : Nat} :
    Bis (cutG g d) (cutG h d) (fun i j => ∃ u v l, (cuRows g d)[i]? = some (u, l) ∧ (cuRows h d)[j]? = some (v, l) ∧ B u v) where
  lt := fun i j ⟨u, v, l, a, c, _⟩ => ⟨by rw [cutG_len]; exact (List.getElem?_eq_some_iff.mp a).1, by rw [cutG_len]; exact (List.getElem?_eq_some_iff.mp c).1⟩
  hd := fun i j ⟨u, v, l, a, c, q⟩ => by
    rw [cutG_at a, cutG_at c]
    have e := b.hd u v q
    unfold cuNd
    simp only
    revert e
    cases e1 : g.getD u default <;> cases e2 : h.getD v default <;> simp only [Nd.head, Nd.pv, PV.tup.injEq, List.cons.injEq, PV.str.injEq, PV.int.injEq] <;> intro e <;> first
      | (exact absurd e.1 (by decide))
      | skip
    · exact e
    · exact e
    · exact e
    · exact e
    · by_cases hl : l = d
      · simp only [if_pos hl]
      · simp only [if_neg hl, List.length_map, PV.tup.injEq, List.cons.injEq, PV.int.injEq, PV.str.injEq]
        exact e
  pt := fun i j ⟨u, v, l, a, c, q⟩ k x y hx hy => by
    have ga := Cu.all hg g0 (d := d)
    have ha := Cu.all hh h0 (d := d)
    unfold ptsOf at hx hy
    rw [cutG_at a] at hx
    rw [cutG_at c] at hy
    unfold cuNd at hx hy
    cases e1 : g.getD u default with
    | tup c1 ps =>
      cases e2 : h.getD v default with
      | tup c2 qs =>
        rw [e1] at hx
        rw [e2] at hy
        simp only at hx hy
        by_cases hl : l = d
        · rw [if_pos hl] at hx
          simp [Nd.parts] at hx
        · rw [if_neg hl] at hx hy
          simp only [Nd.parts, List.getElem?_map, Option.map_eq_some_iff] at hx hy
          obtain ⟨x', hx', rfl⟩ := hx
          obtain ⟨y', hy', rfl⟩ := hy
          have qb := b.pt u v q k x' y' (by unfold ptsOf; rw [e1]; exact hx') (by unfold ptsOf; rw [e2]; exact hy')
          have m1 := ga.cl i u l (List.getElem?_eq_some_iff.mp a).1 a c1 ps e1 hl x' (List.mem_of_getElem? hx')
          have m2 := ha.cl j v l (List.getElem?_eq_some_iff.mp c).1 c c2 qs e2 hl y' (List.mem_of_getElem? hy')
          exact ⟨x', y', l + 1, idx_at m1, idx_at m2, qb⟩
      | _ =>
        have := b.hd u v q
        rw [e1, e2] at this
        simp [Nd.head, Nd.pv] at this
    | _ =>
      rw [e1] at hx
      simp [Nd.parts] at hx
theorem cut_least {g h : List Nd} {B : Nat → Nat → Prop} (b : Bis g h B) (h00 : B 0 0) (hg : okG g) (hh : okG h) (g0 : 0 < g.length) (h0 : 0 < h.length) {d : Nat} : leastL (cutG g d) = leastL (cutG h d) :=
  leastL_bis (cut_bis b h00 hg hh g0 h0) ⟨0, 0, 0, (Cu.all hg g0).r0, (Cu.all hh h0).r0, h00⟩ (cutG_ok hg g0).1 (cutG_ok hh h0).1
end LD
set_option maxRecDepth 100000
namespace LD
open L3
/-- the turn by turn kinds come to the kinds -/
theorem cls_it {g : List Nd} : ∀ {f c : Nat} {k : Nat}, ∃ k', clsGo g f c (itK g k) = itK g k'
  | 0, c, k => ⟨k, rfl⟩
  | f + 1, c, k => by
    unfold clsGo
    split
    · exact cls_it (k := k + 1)
    · exact ⟨k, rfl⟩
theorem clsL_it (g : List Nd) : ∃ k, clsL g = itK g k := cls_it (k := 0)
theorem it_pat {g : List Nd} (hg : okG g) : ∀ {k : Nat}, Pat g (itK g k) (k + 1)
  | 0 => Pat.base
  | k + 1 => (it_pat hg (k := k)).refine hg
theorem nd_mono {K K' : List Nat} {n : Nat} (hK : K.length = n) (hK' : K'.length = n) (h : ∀ i j, i < n → j < n → at0 K' i = at0 K' j → at0 K i = at0 K j) : nd K ≤ nd K' := by
  show (dv K).length ≤ (dv K').length
  let φ : Int → Int := fun v => ((at0 K ((List.range n).findIdx fun k => ((at0 K' k : Nat) : Int) == v) : Nat) : Int)
  have hφ : ∀ k, k < n → φ ((at0 K' k : Nat) : Int) = ((at0 K k : Nat) : Int) := fun k hk => by
    have hex : ∃ x ∈ List.range n, (((at0 K' x : Nat) : Int) == ((at0 K' k : Nat) : Int)) = true := ⟨k, List.mem_range.mpr hk, by simp⟩
    have h1 := List.findIdx_lt_length_of_exists hex
    have h2 := List.findIdx_getElem (w := h1)
    rw [List.length_range] at h1
    simp only [List.getElem_range, beq_iff_eq] at h2
    show ((at0 K _ : Nat) : Int) = _
    rw [h _ k h1 hk (by omega)]
  have := nodup_sub (X := (dv K').map φ) (dv_nd K) fun v hv => by
    obtain ⟨k, hk, rfl⟩ := dv_mem.mp hv
    exact List.mem_map.mpr ⟨((at0 K' k : Nat) : Int), dv_mem.mpr ⟨k, by omega, rfl⟩, hφ k (by omega)⟩
  simpa using this
theorem it_le {g : List Nd} (hg : okG g) (h0 : 0 < g.length) (k : Nat) : nd (itK g k) ≤ nd (clsL g) := by
  have hF := clsL_fin hg h0
  have hp := it_pat hg (k := k)
  exact nd_mono hp.len hF.len fun i j hi hj e => (hp.iff i j hi hj).mpr ((hF.iff i j hi hj).mp e _)
end LD
set_option maxRecDepth 100000
namespace LD
open L3
/-! ### cut trees: all rows are met; the laws' levels -/
def Rc (g : List Nd) (d : Nat) (rows : List (Nat × Nat)) (a : Nat) : Prop := ∀ k, 0 < k → k < rows.length → ∃ b, b < a ∧ b < k ∧ ∃ u l c ps j, rows[b]? = some (u, l) ∧ g.getD u default = .tup c ps ∧ l ≠ d ∧ j ∈ ps ∧ rows[k]? = some (j, l + 1)
theorem foldP_new : ∀ {ps rows : List (Nat × Nat)} {k : Nat} {q : Nat × Nat}, (ps.foldl addP rows)[k]? = some q → rows.length ≤ k → q ∈ ps
  | [], rows, k, q, h, hk => by
    rw [List.foldl_nil, List.getElem?_eq_none hk] at h
    cases h
  | p :: ps, rows, k, q, h, hk => by
    rw [List.foldl_cons] at h
    by_cases hl : (addP rows p).length ≤ k
    · exact List.mem_cons_of_mem _ (foldP_new h hl)
    · obtain ⟨r, hr⟩ := foldP_pre (ps := ps) (rows := addP rows p)
      rw [hr, List.getElem?_append_left (by omega)] at h
      unfold addP at h hl
      split at h
      · rename_i hm
        rw [if_pos hm] at hl
        omega
      · rename_i hm
        rw [if_neg hm, List.length_append, List.length_singleton] at hl
        rw [List.getElem?_append_right hk, show k - rows.length = 0 by omega] at h
        cases h
        exact List.mem_cons_self
theorem Rc.step {g : List Nd} {d : Nat} {rows : List (Nat × Nat)} {a : Nat} {p : Nat × Nat} (h : Rc g d rows a) (hp : rows[a]? = some p) : Rc g d (cuNx g d rows p) (a + 1) := by
  obtain ⟨r, hr⟩ := cuNx_pre (g := g) (d := d) (rows := rows) (p := p)
  have hal := (List.getElem?_eq_some_iff.mp hp).1
  have keep : ∀ {i : Nat} {q : Nat × Nat}, rows[i]? = some q → (cuNx g d rows p)[i]? = some q := fun {i q} e => by
    rw [hr, List.getElem?_append_left (List.getElem?_eq_some_iff.mp e).1]
    exact e
  intro k k0 hk
  by_cases hkl : k < rows.length
  · obtain ⟨b, h1, h2, u, l, c, ps, j, e1, e2, e3, e4, e5⟩ := h k k0 hkl
    exact ⟨b, by omega, h2, u, l, c, ps, j, keep e1, e2, e3, e4, keep e5⟩
  · have hq : (cuNx g d rows p)[k]? = some (cuNx g d rows p)[k] := List.getElem?_eq_getElem hk
    generalize (cuNx g d rows p)[k] = q at hq
    have hq2 := hq
    unfold cuNx at hq2
    split at hq2
    · rw [List.getElem?_eq_none (by omega)] at hq2
      cases hq2
    · rename_i hne
      have hm := foldP_new hq2 (by omega)
      obtain ⟨j, hj, rfl⟩ := List.mem_map.mp hm
      cases e : g.getD p.1 default with
      | tup c ps =>
        rw [e] at hj hne
        exact ⟨a, by omega, by omega, p.1, p.2, c, ps, j, keep hp, e, fun z => hne ⟨rfl, z⟩, hj, hq⟩
      | _ =>
        rw [e] at hj
        cases hj
theorem Rc.go {g : List Nd} {d : Nat} : ∀ {F : Nat} {rows : List (Nat × Nat)} {a : Nat}, Rc g d rows a → ∃ a', Rc g d (cuGo g d F rows a) a'
  | 0, rows, a, h => ⟨a, h⟩
  | F + 1, rows, a, h => by
    unfold cuGo
    cases hp : rows[a]? with
    | none => exact ⟨a, h⟩
    | some p => exact Rc.go (h.step hp)
theorem Rc.all {g : List Nd} (hg : okG g) (g0 : 0 < g.length) {d k : Nat} (k0 : 0 < k) (hk : k < (cutG g d).length) : ∃ b, b < k ∧ k ∈ ptsOf (cutG g d) b := by
  rw [cutG_len] at hk
  obtain ⟨a', h⟩ := Rc.go (g := g) (d := d) (F := g.length * (d + 1) + 1) (rows := [(0, 0)]) (a := 0) fun k k0 hk => by simp at hk; omega
  obtain ⟨b, _, h2, u, l, c, ps, j, e1, e2, e3, e4, e5⟩ := h k k0 hk
  refine ⟨b, h2, ?_⟩
  unfold ptsOf
  have e1 : (cuRows g d)[b]? = some (u, l) := e1
  have e5 : (cuRows g d)[k]? = some (j, l + 1) := e5
  rw [cutG_at e1]
  unfold cuNd
  rw [e2]
  simp only [if_neg e3, Nd.parts]
  refine List.mem_map.mpr ⟨j, e4, ?_⟩
  have hnd := (Cu.all hg g0 (d := d)).ok.nd
  have hk3 : (cuRows g d)[k] = (j, l + 1) := (List.getElem?_eq_some_iff.mp e5).2
  rw [← hk3]
  exact hnd.idxOf_getElem k hk
theorem ixOf_selfX {k : PV} : ∀ {l : List PV}, k ∈ l → (ixOf k l).isSome = true
  | j :: r, h => by
    unfold ixOf
    split
    · rfl
    · rename_i hb
      rcases List.mem_cons.mp h with rfl | h
      · exact absurd (PV.beq_iff.mpr rfl) hb
      · have := ixOf_selfX h
        revert this
        cases ixOf k r <;> simp
/-- every node of a graph whose nodes are all met is of a kind that is met -/
theorem all_met {g : List Nd} (hg : okG g) (h0 : 0 < g.length) (hr : ∀ k, 0 < k → k < g.length → ∃ b, b < k ∧ k ∈ ptsOf g b) : ∀ {k : Nat}, k < g.length → (ordOf (clsL g) (firstsL g) k).isSome = true := by
  obtain ⟨h1, h2, h3, h4⟩ := firsts_ok hg h0
  have hF := clsL_fin hg h0
  intro k
  induction k using Nat.strongRecOn with
  | _ k ih =>
    intro hk
    have mem : ∀ f ∈ firstsL g, (ordOf (clsL g) (firstsL g) f).isSome = true := fun f hf => by
      unfold ordOf
      exact ixOf_selfX (List.mem_map.mpr ⟨f, hf, rfl⟩)
    by_cases k0 : k = 0
    · subst k0
      exact mem 0 (List.mem_of_getElem? h1)
    · obtain ⟨b, hb, hkb⟩ := hr k (by omega) hk
      obtain ⟨m, hm⟩ := Option.isSome_iff_exists.mp (ih b hb (by omega))
      have hs := ixOf_sound hm
      rw [List.getElem?_map, Option.map_eq_some_iff] at hs
      obtain ⟨f, hf, ef⟩ := hs
      have hfm := List.mem_of_getElem? hf
      have hfl := h2 f hfm
      have e := (hF.iff f b hfl (by omega)).mp (kd_iff.mp ef)
      obtain ⟨t, ht, et⟩ := List.mem_iff_getElem.mp hkb
      have hlen : (ptsOf g f).length = (ptsOf g b).length := head_len (e 1).1
      have hx : (ptsOf g f)[t]? = some ((ptsOf g f)[t]'(by omega)) := List.getElem?_eq_getElem (by omega)
      have hy : (ptsOf g b)[t]? = some k := by rw [List.getElem?_eq_getElem ht, et]
      generalize (ptsOf g f)[t]'(by omega) = x at hx
      have hxl := (parts_lt hg hfl).2 x (List.mem_of_getElem? hx)
      have ek : at0 (clsL g) x = at0 (clsL g) k := (hF.iff x k hxl hk).mpr fun q => (e (q + 1)).2 t x k hx hy
      have := h3 f hfm x (List.mem_of_getElem? hx)
      unfold ordOf at this ⊢
      rw [← kd_iff.mpr ek]
      exact this
theorem nd_firsts {g : List Nd} (hg : okG g) (h0 : 0 < g.length) (hr : ∀ k, 0 < k → k < g.length → ∃ b, b < k ∧ k ∈ ptsOf g b) : nd (clsL g) ≤ (leastL g).length := by
  rw [leastL_lenF hg h0]
  have hF := clsL_fin hg h0
  have := nodup_sub (X := (firstsL g).map fun f => ((at0 (clsL g) f : Nat) : Int)) (dv_nd (clsL g)) fun v hv => by
    obtain ⟨k, hk, rfl⟩ := dv_mem.mp hv
    rw [hF.len] at hk
    obtain ⟨m, hm⟩ := Option.isSome_iff_exists.mp (all_met hg h0 hr hk)
    have hs := ixOf_sound hm
    rw [List.getElem?_map, Option.map_eq_some_iff] at hs
    obtain ⟨f, hf, ef⟩ := hs
    exact List.mem_map.mpr ⟨f, List.mem_of_getElem? hf, by rw [kd_iff.mp ef]⟩
  rw [List.length_map] at this
  exact this
/-! ### the laws' way: a node for each level -/
def lcN (m d l : Nat) : Nd → Nd
  | .tup a ps => if l = d then .atom [99, 117, 116] else .tup a (ps.map fun j => j + m * (l + 1))
  | x => x
def LG (g : List Nd) (d : Nat) : List Nd := (List.range (d + 1)).flatMap fun l => g.map (lcN g.length d l)
theorem LG_lenK {g : List Nd} {d : Nat} : ∀ {k : Nat}, ((List.range k).flatMap fun l => g.map (lcN g.length d l)).length = k * g.length
  | 0 => by simp
  | k + 1 => by
    rw [List.range_succ, List.flatMap_append, List.length_append, LG_lenK]
    simp [Nat.add_mul]
theorem LG_len {g : List Nd} {d : Nat} : (LG g d).length = (d + 1) * g.length := LG_lenK
theorem LG_atK {g : List Nd} {d l i : Nat} (hi : i < g.length) : ∀ {k : Nat}, l < k → ((List.range k).flatMap fun l => g.map (lcN g.length d l))[i + g.length * l]? = some (lcN g.length d l (g.getD i default))
  | 0, h => by omega
  | k + 1, h => by
    rw [List.range_succ, List.flatMap_append]
    by_cases hl : l < k
    · rw [List.getElem?_append_left]
      · exact LG_atK hi hl
      · rw [LG_lenK]
        have : g.length * (l + 1) ≤ g.length * k := Nat.mul_le_mul_left _ hl
        rw [Nat.mul_add, Nat.mul_one] at this
        rw [Nat.mul_comm k]
        omega
    · have : l = k := by omega
      subst this
      rw [List.getElem?_append_right (by rw [LG_lenK, Nat.mul_comm]; omega), LG_lenK, Nat.mul_comm l, Nat.add_sub_cancel]
      simp only [List.flatMap_cons, List.flatMap_nil, List.append_nil, List.getElem?_map]
      rw [List.getD_eq_getElem?_getD, List.getElem?_eq_getElem hi]
      rfl
theorem LG_at {g : List Nd} {d l i : Nat} (hi : i < g.length) (hl : l ≤ d) : (LG g d).getD (i + g.length * l) default = lcN g.length d l (g.getD i default) := by
  rw [List.getD_eq_getElem?_getD]
  have := LG_atK (g := g) (d := d) hi (show l < d + 1 by omega)
  unfold LG
  rw [this]
  rfl
theorem lev_lt {m d l i : Nat} (hi : i < m) (hl : l ≤ d) : i + m * l < (d + 1) * m := by
  have : m * (l + 1) ≤ m * (d + 1) := Nat.mul_le_mul_left _ (by omega)
  rw [Nat.mul_add, Nat.mul_one] at this
  rw [Nat.mul_comm (d + 1)]
  omega
theorem LG_ok {g : List Nd} (hg : okG g) {d : Nat} : okG (LG g d) := by
  intro x hx
  rw [LG_len]
  unfold LG at hx
  obtain ⟨l, hl, hx⟩ := List.mem_flatMap.mp hx
  obtain ⟨y, hy, rfl⟩ := List.mem_map.mp hx
  have hl := List.mem_range.mp hl
  have h1 := hg y hy
  cases y with
  | tup a ps =>
    unfold lcN
    simp only
    split
    · simp [Nd.parts]
    · simp only [Nd.parts, List.length_map] at h1 ⊢
      refine ⟨h1.1, fun j hj => ?_⟩
      obtain ⟨u, hu, rfl⟩ := List.mem_map.mp hj
      exact lev_lt (h1.2 u hu) (by omega)
  | _ => simp [lcN, Nd.parts]
/-- both ways stand for the same tree -/
theorem LG_bis {g : List Nd} (hg : okG g) (g0 : 0 < g.length) {d : Nat} : Bis (cutG g d) (LG g d) (fun i j => ∃ u l, (cuRows g d)[i]? = some (u, l) ∧ j = u + g.length * l) where
  lt := fun i j ⟨u, l, a, e⟩ => by
    have := (Cu.all hg g0 (d := d)).ok.lt _ (List.mem_of_getElem? a)
    subst e
    exact ⟨by rw [cutG_len]; exact (List.getElem?_eq_some_iff.mp a).1, by rw [LG_len]; exact lev_lt this.1 (by have := this.2; simp only at this; omega)⟩
  hd := fun i j ⟨u, l, a, e⟩ => by
    have := (Cu.all hg g0 (d := d)).ok.lt _ (List.mem_of_getElem? a)
    subst e
    rw [cutG_at a, LG_at this.1 (by have := this.2; simp only at this; omega)]
    unfold cuNd lcN
    simp only
    cases g.getD u default with
    | tup c ps =>
      simp only
      by_cases hl : l = d
      · rw [if_pos hl, if_pos hl]
      · rw [if_neg hl, if_neg hl]
        simp [Nd.head]
    | _ => rfl
  pt := fun i j ⟨u, l, a, e⟩ k x y hx hy => by
    have ga := Cu.all hg g0 (d := d)
    have hul := ga.ok.lt _ (List.mem_of_getElem? a)
    simp only at hul
    subst e
    unfold ptsOf at hx hy
    rw [cutG_at a] at hx
    rw [LG_at hul.1 (by omega)] at hy
    unfold cuNd at hx
    unfold lcN at hy
    cases e1 : g.getD u default with
    | tup c ps =>
      rw [e1] at hx hy
      simp only at hx hy
      by_cases hl : l = d
      · rw [if_pos hl] at hx
        simp [Nd.parts] at hx
      · rw [if_neg hl] at hx hy
        simp only [Nd.parts, List.getElem?_map, Option.map_eq_some_iff] at hx hy
        obtain ⟨x', hx', rfl⟩ := hx
        obtain ⟨y', hy', rfl⟩ := hy
        rw [hx'] at hy'
        cases hy'
        exact ⟨x', l + 1, idx_at (ga.cl i u l (List.getElem?_eq_some_iff.mp a).1 a c ps e1 hl x' (List.mem_of_getElem? hx')), rfl⟩
    | _ =>
      rw [e1] at hx
      simp [Nd.parts] at hx
theorem LG_least {g : List Nd} (hg : okG g) (g0 : 0 < g.length) {d : Nat} : leastL (LG g d) = leastL (cutG g d) :=
  (leastL_bis (LG_bis hg g0) ⟨0, 0, (Cu.all hg g0).r0, by simp⟩ (cutG_ok hg g0).1 (LG_ok hg)).symm
/-- the level of a node, and of its parts -/
theorem LG_lev {g : List Nd} (hg : okG g) (g0 : 0 < g.length) {d a j : Nat} (ha : a < (LG g d).length) (hj : j ∈ ptsOf (LG g d) a) : j / g.length = a / g.length + 1 ∧ a / g.length < d := by
  rw [LG_len] at ha
  have hi := Nat.mod_lt a g0
  have hl : a / g.length ≤ d := by
    have : a / g.length < d + 1 := (Nat.div_lt_iff_lt_mul g0).mpr ha
    omega
  have ea : a = a % g.length + g.length * (a / g.length) := (Nat.mod_add_div a g.length).symm
  have e := LG_at (g := g) (d := d) hi hl
  rw [← ea] at e
  unfold ptsOf at hj
  rw [e] at hj
  unfold lcN at hj
  have hp := (partsO_lt hg hi).2
  cases e1 : g.getD (a % g.length) default with
  | tup c ps =>
    rw [e1] at hj hp
    simp only at hj
    by_cases hld : a / g.length = d
    · rw [if_pos hld] at hj
      cases hj
    · rw [if_neg hld] at hj
      simp only [Nd.parts] at hj hp
      obtain ⟨u, hu, rfl⟩ := List.mem_map.mp hj
      refine ⟨?_, by omega⟩
      rw [Nat.add_mul_div_left _ _ g0, Nat.div_eq_of_lt (hp u hu)]
      omega
  | _ =>
    rw [e1] at hj
    cases hj
end LD
set_option maxRecDepth 100000
namespace LD
open L3
local macro_rules | `(tactic| walk_at "e") => `(tactic| try simp -dsimp only [↓y_cons, ↓y_if, ↓y_asub, ↓W_rt, ↓W_ex, ↓W_fr, ↓W_lc, ↓W_pass, ↓W_brk, ↓W_cnt, ↓W_retn, ↓W_nil, ↓nxt_nx, ↓nxt_rt, ↓nxt_bk, ↓nxt_ct, ↓retK_rt, ↓retK_nx, ↓e_con, ↓e_glo, ↓e_tup, ↓e_lst, ↓e_bin, ↓e_negi, ↓e_nt, ↓T_idx, ↓T_cal, ↓T_bf, ↓T_bin, ↓T_tup, ↓T_fld, ↓T_mth, ↓T_ife, ↓T_var, ↓T_glo, ↓T_con, ↓T_cmp, ↓T_chn, ↓T_isi, ↓T_nt, ↓T_and, ↓T_or, ↓e_and, ↓e_or, ↓e_ife, ↓e_cmp, ↓e_chn, ↓e_idx, ↓e_slc, ↓e_fld, ↓e_cal, ↓e_mth, ↓e_dnew, ↓e_lens, ↓m_fn, ↓Iq_R, ↓e_bf1, ↓e_bf, ↓e_isi, ↓es_nil, ↓es_cons, ↓eo_no, ↓i_seq, ↓q_tup, ↓q_rol, ↓q_str, ↓o_addi, ↓o_subi, ↓o_p9, ↓o_slct, ↓u_lenT, ↓u_lenC, ↓u_int, ↓u_abs, ↓u_max, ↓u_min, ↓u_tupT, ↓u_lstT, ↓u_lstC, ↓Br_t, ↓Br_f, ↓Br_n, ↓Tq_bl, ↓Tq_int, ↓Tq_tup, ↓Tq_rol, ↓Tq_non, ↓Gq_s, ↓Yq_non, ↓Yq_bl, ↓Yq_int, ↓Yq_str, ↓Yq_tup, ↓Yq_rol, ↓Cq_isnn, ↓Cq_isN, ↓Iq_T, ↓Iq_C, ↓Cq_eqi, ↓Cq_nei, ↓Cq_eqs, ↓Cq_nes, ↓Cq_eqb, ↓Cq_neb, ↓Cq_lti, ↓Cq_lei, ↓Cq_gti, ↓Cq_gei, ↓Cq_isb, ↓Cq_isnb, ↓Cq_lts, ↓Cq_inn1, ↓Cq_nin1, ↓v_0, ↓n_0, ↓g_0, ↓t_0, ↓v_1, ↓n_1, ↓g_1, ↓t_1, ↓v_2, ↓n_2, ↓g_2, ↓t_2, ↓v_3, ↓n_3, ↓g_3, ↓t_3, ↓v_4, ↓n_4, ↓g_4, ↓t_4, ↓v_5, ↓n_5, ↓g_5, ↓t_5, ↓v_6, ↓n_6, ↓g_6, ↓t_6, ↓v_7, ↓n_7, ↓g_7, ↓t_7, ↓v_8, ↓n_8, ↓g_8, ↓t_8, ↓v_9, ↓n_9, ↓g_9, ↓t_9, ↓v_10, ↓n_10, ↓g_10, ↓t_10, ↓v_11, ↓n_11, ↓g_11, ↓t_11, ↓v_12, ↓n_12, ↓g_12, ↓t_12, ↓v_13, ↓n_13, ↓g_13, ↓t_13, Iq_R, Br_t, Br_f, Br_n, Tq_bl, Tq_int, Tq_tup, Tq_rol, Tq_non, Gq_s, Yq_non, Yq_bl, Yq_int, Yq_str, Yq_tup, Yq_rol, Cq_isnn, Cq_isN, Iq_T, Iq_C, Cq_eqi, Cq_nei, Cq_eqs, Cq_nes, Cq_eqb, Cq_neb, Cq_lti, Cq_lei, Cq_gti, Cq_gei, Cq_isb, Cq_isnb, Cq_lts, Cq_inn1, Cq_nin1, e_neg, eo_ex, i_rng, i_rng2, y_aug, at_0, at_1, at_2, at_3, cxF_T, cxF_call, Bool.not_true, Bool.not_false, Bool.false_eq_true, if_true, if_false, tyB, PV.int.injEq, exists_eq_left, exists_eq_left', List.isEmpty_nil, List.isEmpty_cons, List.length_cons, List.length_nil, List.map_cons, List.map_nil, Option.map_some, startEnv, List.replicate, List.cons_append, List.nil_append, PV.int.injEq, ↓cG, ↓e_ddis, ↓y_afld, ↓y_atup, ↓t_tup, ↓ts_nil, ↓ts_cons, ↓e_dget1, ↓e_dget2, ↓e_dset, ↓e_lzip, ↓e_rev, ↓i_enum, ↓y_augs, ↓y_try, ↓y_rai, ↓h_nil, ↓h_ret, ↓h_isi, ↓e_ddist, ↓e_kdi, ↓e_lrng, ↓i_zip, ↓i_rvd, ↓y_del, ↓e_negU, ↓y_augf, ↓v_14, ↓n_14, ↓g_14, ↓t_14, ↓v_15, ↓n_15, ↓g_15, ↓t_15, ↓v_16, ↓n_16, ↓g_16, ↓t_16, ↓v_17, ↓n_17, ↓g_17, ↓t_17, ↓v_18, ↓n_18, ↓g_18, ↓t_18, ↓v_19, ↓n_19, ↓g_19, ↓t_19, ↓v_20, ↓n_20, ↓g_20, ↓t_20, ↓v_21, ↓n_21, ↓g_21, ↓t_21, ↓v_22, ↓n_22, ↓g_22, ↓t_22, ↓v_23, ↓n_23, ↓g_23, ↓t_23, u_intB, o_muli, o_modi, o_fdivi, cG, k_ix, ixO_L, ixO_D, ixO_F, k_sx, k_sf, k_fld, k_tr, k_ty, k_in, k_nin, k_int_i, k_int_s, k_int_b, k_int_n, k_nint, k_inr, k_ninr, k_len, k_tuple, k_list, k_sorted, k_min, k_q, k_lens, k_add, k_mul, k_slc, k_mth, mqO_L, lm_app, lm_ext, lm_pop, k_app, k_extT, k_extL, k_pop, k_isd, k_dget, k_dset, k_lzip, k_revT, k_revL, k_enT, k_enL, o_subb, k_ltT, k_gtT, k_ltL, k_lrng, k_zip, Uq_i, t_tupL, lm_idx, k_idx, k_del, k_mthS, sm_join, sm_sw, sm_low, k_join, k_sw, u_strS, k_pop0, nJ_nx, nJ_rt, nJ_bk, nJ_ct, inL_t, inL_i, inL_s, inL_b, inL_n, wipe_1, wipe_nil, app_0, app_k, sapp_0, sapp_k, List.getElem?_cons_zero, List.getElem?_cons_succ, List.set_cons_zero, List.set_cons_succ, List.append_assoc, List.length_append, Nat.reduceAdd, glob_MOST_NODES, g_MOST_NODES])
local macro_rules | `(tactic| walk_at "s") => `(tactic| try simp -dsimp only [↓y_cons, ↓y_if, ↓y_asub, ↓W_rt, ↓W_ex, ↓W_fr, ↓W_lc, ↓W_pass, ↓W_brk, ↓W_cnt, ↓W_retn, ↓W_nil, ↓nxt_nx, ↓nxt_rt, ↓nxt_bk, ↓nxt_ct, ↓retK_rt, ↓retK_nx, ↓e_con, ↓e_glo, ↓e_tup, ↓e_lst, ↓e_bin, ↓e_negi, ↓e_nt, ↓T_idx, ↓T_cal, ↓T_bf, ↓T_bin, ↓T_tup, ↓T_fld, ↓T_mth, ↓T_ife, ↓T_var, ↓T_glo, ↓T_con, ↓T_cmp, ↓T_chn, ↓T_isi, ↓T_nt, ↓T_and, ↓T_or, ↓e_and, ↓e_or, ↓e_ife, ↓e_cmp, ↓e_chn, ↓e_idx, ↓e_slc, ↓e_fld, ↓e_cal, ↓e_mth, ↓e_dnew, ↓e_lens, ↓m_fn, ↓Iq_R, ↓e_bf1, ↓e_bf, ↓e_isi, ↓es_nil, ↓es_cons, ↓eo_no, ↓i_seq, ↓q_tup, ↓q_rol, ↓q_str, ↓o_addi, ↓o_subi, ↓o_p9, ↓o_slct, ↓u_lenT, ↓u_lenC, ↓u_int, ↓u_abs, ↓u_max, ↓u_min, ↓u_tupT, ↓u_lstT, ↓u_lstC, ↓Br_t, ↓Br_f, ↓Br_n, ↓Tq_bl, ↓Tq_int, ↓Tq_tup, ↓Tq_rol, ↓Tq_non, ↓Gq_s, ↓Yq_non, ↓Yq_bl, ↓Yq_int, ↓Yq_str, ↓Yq_tup, ↓Yq_rol, ↓Cq_isnn, ↓Cq_isN, ↓Iq_T, ↓Iq_C, ↓Cq_eqi, ↓Cq_nei, ↓Cq_eqs, ↓Cq_nes, ↓Cq_eqb, ↓Cq_neb, ↓Cq_lti, ↓Cq_lei, ↓Cq_gti, ↓Cq_gei, ↓Cq_isb, ↓Cq_isnb, ↓Cq_lts, ↓Cq_inn1, ↓Cq_nin1, ↓v_0, ↓n_0, ↓g_0, ↓t_0, ↓v_1, ↓n_1, ↓g_1, ↓t_1, ↓v_2, ↓n_2, ↓g_2, ↓t_2, ↓v_3, ↓n_3, ↓g_3, ↓t_3, ↓v_4, ↓n_4, ↓g_4, ↓t_4, ↓v_5, ↓n_5, ↓g_5, ↓t_5, ↓v_6, ↓n_6, ↓g_6, ↓t_6, ↓v_7, ↓n_7, ↓g_7, ↓t_7, ↓v_8, ↓n_8, ↓g_8, ↓t_8, ↓v_9, ↓n_9, ↓g_9, ↓t_9, ↓v_10, ↓n_10, ↓g_10, ↓t_10, ↓v_11, ↓n_11, ↓g_11, ↓t_11, ↓v_12, ↓n_12, ↓g_12, ↓t_12, ↓v_13, ↓n_13, ↓g_13, ↓t_13, Iq_R, Br_t, Br_f, Br_n, Tq_bl, Tq_int, Tq_tup, Tq_rol, Tq_non, Gq_s, Yq_non, Yq_bl, Yq_int, Yq_str, Yq_tup, Yq_rol, Cq_isnn, Cq_isN, Iq_T, Iq_C, Cq_eqi, Cq_nei, Cq_eqs, Cq_nes, Cq_eqb, Cq_neb, Cq_lti, Cq_lei, Cq_gti, Cq_gei, Cq_isb, Cq_isnb, Cq_lts, Cq_inn1, Cq_nin1, e_neg, eo_ex, i_rng, i_rng2, y_aug, at_0, at_1, at_2, at_3, cxF_T, cxF_call, Bool.not_true, Bool.not_false, Bool.false_eq_true, if_true, if_false, tyB, PV.int.injEq, exists_eq_left, exists_eq_left', List.isEmpty_nil, List.isEmpty_cons, List.length_cons, List.length_nil, List.map_cons, List.map_nil, Option.map_some, startEnv, List.replicate, List.cons_append, List.nil_append, PV.int.injEq, ↓cG, ↓e_ddis, ↓y_afld, ↓y_atup, ↓t_tup, ↓ts_nil, ↓ts_cons, ↓e_dget1, ↓e_dget2, ↓e_dset, ↓e_lzip, ↓e_rev, ↓i_enum, ↓y_augs, ↓y_try, ↓y_rai, ↓h_nil, ↓h_ret, ↓h_isi, ↓e_ddist, ↓e_kdi, ↓e_lrng, ↓i_zip, ↓i_rvd, ↓y_del, ↓e_negU, ↓y_augf, ↓v_14, ↓n_14, ↓g_14, ↓t_14, ↓v_15, ↓n_15, ↓g_15, ↓t_15, ↓v_16, ↓n_16, ↓g_16, ↓t_16, ↓v_17, ↓n_17, ↓g_17, ↓t_17, ↓v_18, ↓n_18, ↓g_18, ↓t_18, ↓v_19, ↓n_19, ↓g_19, ↓t_19, ↓v_20, ↓n_20, ↓g_20, ↓t_20, ↓v_21, ↓n_21, ↓g_21, ↓t_21, ↓v_22, ↓n_22, ↓g_22, ↓t_22, ↓v_23, ↓n_23, ↓g_23, ↓t_23, u_intB, o_muli, o_modi, o_fdivi, cG, k_ix, ixO_L, ixO_D, ixO_F, k_sx, k_sf, k_fld, k_tr, k_ty, k_in, k_nin, k_int_i, k_int_s, k_int_b, k_int_n, k_nint, k_inr, k_ninr, k_len, k_tuple, k_list, k_sorted, k_min, k_q, k_lens, k_add, k_mul, k_slc, k_mth, mqO_L, lm_app, lm_ext, lm_pop, k_app, k_extT, k_extL, k_pop, k_isd, k_dget, k_dset, k_lzip, k_revT, k_revL, k_enT, k_enL, o_subb, k_ltT, k_gtT, k_ltL, k_lrng, k_zip, Uq_i, t_tupL, lm_idx, k_idx, k_del, k_mthS, sm_join, sm_sw, sm_low, k_join, k_sw, u_strS, k_pop0, nJ_nx, nJ_rt, nJ_bk, nJ_ct, inL_t, inL_i, inL_s, inL_b, inL_n, wipe_1, wipe_nil, app_0, app_k, sapp_0, sapp_k, List.getElem?_cons_zero, List.getElem?_cons_succ, List.set_cons_zero, List.set_cons_succ, List.append_assoc, List.length_append, Nat.reduceAdd, glob_MOST_NODES, g_MOST_NODES, *])
local macro_rules | `(tactic| walk_at "b") => `(tactic| first | (refine Br_d (fun h => ?_) (fun h => ?_) <;> walk_at "e") | (refine Br_e (fun h => ?_) (fun h => ?_) <;> walk_at "e") | (refine Br_i (fun h => ?_) (fun h => ?_) <;> walk_at "e"))
local macro_rules | `(tactic| walk_at "k") => `(tactic| first | (refine Br_e (fun h => absurd h (by decide)) (fun _ => ?_)) | (refine Br_d (fun h => absurd h (by decide)) (fun _ => ?_)) | (refine Br_e (fun _ => ?_) (fun h => absurd rfl h)) | (refine Br_d (fun _ => ?_) (fun h => absurd (by decide) h)) | (refine Br_e (fun _ => ?_) (fun h => absurd (by decide) h)) | (refine Br_d (fun h => absurd h (by omega)) (fun _ => ?_)) | (refine Br_d (fun _ => ?_) (fun h => absurd (by omega) h)) | (refine Br_e (fun h => absurd h (by omega)) (fun _ => ?_)) | (refine Br_e (fun _ => ?_) (fun h => absurd (by omega) h)))
/-! ### checked -/
theorem checkedC_specX {n : Nat} {S : Store} {P : PV → Store → Prop} {E : Exn → Store → Prop} {g : List Nd} (hg : okG g) (h0 : 0 < g.length) (hl : g.length ≤ 950) (hP : nd (clsL g) ≤ 400 → (leastL g).length ≤ 400 → ∀ S', Grow S S' → P (gpv (leastL g)) S')
    (hE : ((∃ k, 400 < nd (itK g k)) ∨ 400 < (leastL g).length) → ∀ S', Grow S S' → E ⟨c_TooMany, []⟩ S') : Wq (callG tab (n + 4) i_checked [gpv g] S) P E := by
  refine Wq_callG tab_checked rfl ?_
  simp only [f_checked, b_checked, startEnv, List.map_cons, List.map_nil, List.length_cons, List.length_nil, List.replicate, List.cons_append, List.nil_append, Nat.reduceAdd, Nat.reduceSub]
  walk_at "e"
  refine least_specX hg h0 hl (fun hn4 S' g' => ?_) fun h => hE (.inl h)
  by_cases hlen : (leastL g).length ≤ 400
  · have := hP hn4 hlen S' g'
    unfold gpv at this ⊢
    walk_at "e"
    simp only [List.length_map]
    walk_at "k"
    walk_at "e"
    exact this
  · have := hE (.inr (by omega)) S' g'
    unfold gpv
    walk_at "e"
    simp only [List.length_map]
    walk_at "k"
    walk_at "e"
    exact this
theorem checkedC_spec {n : Nat} {S : Store} {P : PV → Store → Prop} {E : Exn → Store → Prop} {g : List Nd} (hg : okG g) (h0 : 0 < g.length) (hl : g.length ≤ 400) (hP : ∀ S', Grow S S' → P (gpv (leastL g)) S') : Wq (callG tab (n + 4) i_checked [gpv g] S) P E :=
  checkedC_specX hg h0 (by omega) (fun _ _ => hP) fun h => by
    have h1 := (leastL_len2 hg h0).1
    rcases h with ⟨k, hk⟩ | h
    · have := nd_le (itK g k)
      rw [itK_len] at this
      omega
    · omega
end LD
set_option maxRecDepth 100000
namespace LD
open L3
local macro_rules | `(tactic| walk_at "e") => `(tactic| try simp -dsimp only [↓y_cons, ↓y_if, ↓y_asub, ↓W_rt, ↓W_ex, ↓W_fr, ↓W_lc, ↓W_pass, ↓W_brk, ↓W_cnt, ↓W_retn, ↓W_nil, ↓nxt_nx, ↓nxt_rt, ↓nxt_bk, ↓nxt_ct, ↓retK_rt, ↓retK_nx, ↓e_con, ↓e_glo, ↓e_tup, ↓e_lst, ↓e_bin, ↓e_negi, ↓e_nt, ↓T_idx, ↓T_cal, ↓T_bf, ↓T_bin, ↓T_tup, ↓T_fld, ↓T_mth, ↓T_ife, ↓T_var, ↓T_glo, ↓T_con, ↓T_cmp, ↓T_chn, ↓T_isi, ↓T_nt, ↓T_and, ↓T_or, ↓e_and, ↓e_or, ↓e_ife, ↓e_cmp, ↓e_chn, ↓e_idx, ↓e_slc, ↓e_fld, ↓e_cal, ↓e_mth, ↓e_dnew, ↓e_lens, ↓m_fn, ↓Iq_R, ↓e_bf1, ↓e_bf, ↓e_isi, ↓es_nil, ↓es_cons, ↓eo_no, ↓i_seq, ↓q_tup, ↓q_rol, ↓q_str, ↓o_addi, ↓o_subi, ↓o_p9, ↓o_slct, ↓u_lenT, ↓u_lenC, ↓u_int, ↓u_abs, ↓u_max, ↓u_min, ↓u_tupT, ↓u_lstT, ↓u_lstC, ↓Br_t, ↓Br_f, ↓Br_n, ↓Tq_bl, ↓Tq_int, ↓Tq_tup, ↓Tq_rol, ↓Tq_non, ↓Gq_s, ↓Yq_non, ↓Yq_bl, ↓Yq_int, ↓Yq_str, ↓Yq_tup, ↓Yq_rol, ↓Cq_isnn, ↓Cq_isN, ↓Iq_T, ↓Iq_C, ↓Cq_eqi, ↓Cq_nei, ↓Cq_eqs, ↓Cq_nes, ↓Cq_eqb, ↓Cq_neb, ↓Cq_lti, ↓Cq_lei, ↓Cq_gti, ↓Cq_gei, ↓Cq_isb, ↓Cq_isnb, ↓Cq_lts, ↓Cq_inn1, ↓Cq_nin1, ↓v_0, ↓n_0, ↓g_0, ↓t_0, ↓v_1, ↓n_1, ↓g_1, ↓t_1, ↓v_2, ↓n_2, ↓g_2, ↓t_2, ↓v_3, ↓n_3, ↓g_3, ↓t_3, ↓v_4, ↓n_4, ↓g_4, ↓t_4, ↓v_5, ↓n_5, ↓g_5, ↓t_5, ↓v_6, ↓n_6, ↓g_6, ↓t_6, ↓v_7, ↓n_7, ↓g_7, ↓t_7, ↓v_8, ↓n_8, ↓g_8, ↓t_8, ↓v_9, ↓n_9, ↓g_9, ↓t_9, ↓v_10, ↓n_10, ↓g_10, ↓t_10, ↓v_11, ↓n_11, ↓g_11, ↓t_11, ↓v_12, ↓n_12, ↓g_12, ↓t_12, ↓v_13, ↓n_13, ↓g_13, ↓t_13, Iq_R, Br_t, Br_f, Br_n, Tq_bl, Tq_int, Tq_tup, Tq_rol, Tq_non, Gq_s, Yq_non, Yq_bl, Yq_int, Yq_str, Yq_tup, Yq_rol, Cq_isnn, Cq_isN, Iq_T, Iq_C, Cq_eqi, Cq_nei, Cq_eqs, Cq_nes, Cq_eqb, Cq_neb, Cq_lti, Cq_lei, Cq_gti, Cq_gei, Cq_isb, Cq_isnb, Cq_lts, Cq_inn1, Cq_nin1, e_neg, eo_ex, i_rng, i_rng2, y_aug, at_0, at_1, at_2, at_3, cxF_T, cxF_call, Bool.not_true, Bool.not_false, Bool.false_eq_true, if_true, if_false, tyB, PV.int.injEq, exists_eq_left, exists_eq_left', List.isEmpty_nil, List.isEmpty_cons, List.length_cons, List.length_nil, List.map_cons, List.map_nil, Option.map_some, startEnv, List.replicate, List.cons_append, List.nil_append, PV.int.injEq, ↓cG, ↓e_ddis, ↓y_afld, ↓y_atup, ↓t_tup, ↓ts_nil, ↓ts_cons, ↓e_dget1, ↓e_dget2, ↓e_dset, ↓e_lzip, ↓e_rev, ↓i_enum, ↓y_augs, ↓y_try, ↓y_rai, ↓h_nil, ↓h_ret, ↓h_isi, ↓e_ddist, ↓e_kdi, ↓e_lrng, ↓i_zip, ↓i_rvd, ↓y_del, ↓e_negU, ↓y_augf, ↓v_14, ↓n_14, ↓g_14, ↓t_14, ↓v_15, ↓n_15, ↓g_15, ↓t_15, ↓v_16, ↓n_16, ↓g_16, ↓t_16, ↓v_17, ↓n_17, ↓g_17, ↓t_17, ↓v_18, ↓n_18, ↓g_18, ↓t_18, ↓v_19, ↓n_19, ↓g_19, ↓t_19, ↓v_20, ↓n_20, ↓g_20, ↓t_20, ↓v_21, ↓n_21, ↓g_21, ↓t_21, ↓v_22, ↓n_22, ↓g_22, ↓t_22, ↓v_23, ↓n_23, ↓g_23, ↓t_23, u_intB, o_muli, o_modi, o_fdivi, cG, k_ix, ixO_L, ixO_D, ixO_F, k_sx, k_sf, k_fld, k_tr, k_ty, k_in, k_nin, k_int_i, k_int_s, k_int_b, k_int_n, k_nint, k_inr, k_ninr, k_len, k_tuple, k_list, k_sorted, k_min, k_q, k_lens, k_add, k_mul, k_slc, k_mth, mqO_L, lm_app, lm_ext, lm_pop, k_app, k_extT, k_extL, k_pop, k_isd, k_dget, k_dset, k_lzip, k_revT, k_revL, k_enT, k_enL, o_subb, k_ltT, k_gtT, k_ltL, k_lrng, k_zip, Uq_i, t_tupL, lm_idx, k_idx, k_del, k_mthS, sm_join, sm_sw, sm_low, k_join, k_sw, u_strS, k_pop0, nJ_nx, nJ_rt, nJ_bk, nJ_ct, inL_t, inL_i, inL_s, inL_b, inL_n, wipe_1, wipe_nil, app_0, app_k, sapp_0, sapp_k, List.getElem?_cons_zero, List.getElem?_cons_succ, List.set_cons_zero, List.set_cons_succ, List.append_assoc, List.length_append, Nat.reduceAdd, glob_MOST_NODES, g_MOST_NODES])
local macro_rules | `(tactic| walk_at "s") => `(tactic| try simp -dsimp only [↓y_cons, ↓y_if, ↓y_asub, ↓W_rt, ↓W_ex, ↓W_fr, ↓W_lc, ↓W_pass, ↓W_brk, ↓W_cnt, ↓W_retn, ↓W_nil, ↓nxt_nx, ↓nxt_rt, ↓nxt_bk, ↓nxt_ct, ↓retK_rt, ↓retK_nx, ↓e_con, ↓e_glo, ↓e_tup, ↓e_lst, ↓e_bin, ↓e_negi, ↓e_nt, ↓T_idx, ↓T_cal, ↓T_bf, ↓T_bin, ↓T_tup, ↓T_fld, ↓T_mth, ↓T_ife, ↓T_var, ↓T_glo, ↓T_con, ↓T_cmp, ↓T_chn, ↓T_isi, ↓T_nt, ↓T_and, ↓T_or, ↓e_and, ↓e_or, ↓e_ife, ↓e_cmp, ↓e_chn, ↓e_idx, ↓e_slc, ↓e_fld, ↓e_cal, ↓e_mth, ↓e_dnew, ↓e_lens, ↓m_fn, ↓Iq_R, ↓e_bf1, ↓e_bf, ↓e_isi, ↓es_nil, ↓es_cons, ↓eo_no, ↓i_seq, ↓q_tup, ↓q_rol, ↓q_str, ↓o_addi, ↓o_subi, ↓o_p9, ↓o_slct, ↓u_lenT, ↓u_lenC, ↓u_int, ↓u_abs, ↓u_max, ↓u_min, ↓u_tupT, ↓u_lstT, ↓u_lstC, ↓Br_t, ↓Br_f, ↓Br_n, ↓Tq_bl, ↓Tq_int, ↓Tq_tup, ↓Tq_rol, ↓Tq_non, ↓Gq_s, ↓Yq_non, ↓Yq_bl, ↓Yq_int, ↓Yq_str, ↓Yq_tup, ↓Yq_rol, ↓Cq_isnn, ↓Cq_isN, ↓Iq_T, ↓Iq_C, ↓Cq_eqi, ↓Cq_nei, ↓Cq_eqs, ↓Cq_nes, ↓Cq_eqb, ↓Cq_neb, ↓Cq_lti, ↓Cq_lei, ↓Cq_gti, ↓Cq_gei, ↓Cq_isb, ↓Cq_isnb, ↓Cq_lts, ↓Cq_inn1, ↓Cq_nin1, ↓v_0, ↓n_0, ↓g_0, ↓t_0, ↓v_1, ↓n_1, ↓g_1, ↓t_1, ↓v_2, ↓n_2, ↓g_2, ↓t_2, ↓v_3, ↓n_3, ↓g_3, ↓t_3, ↓v_4, ↓n_4, ↓g_4, ↓t_4, ↓v_5, ↓n_5, ↓g_5, ↓t_5, ↓v_6, ↓n_6, ↓g_6, ↓t_6, ↓v_7, ↓n_7, ↓g_7, ↓t_7, ↓v_8, ↓n_8, ↓g_8, ↓t_8, ↓v_9, ↓n_9, ↓g_9, ↓t_9, ↓v_10, ↓n_10, ↓g_10, ↓t_10, ↓v_11, ↓n_11, ↓g_11, ↓t_11, ↓v_12, ↓n_12, ↓g_12, ↓t_12, ↓v_13, ↓n_13, ↓g_13, ↓t_13, Iq_R, Br_t, Br_f, Br_n, Tq_bl, Tq_int, Tq_tup, Tq_rol, Tq_non, Gq_s, Yq_non, Yq_bl, Yq_int, Yq_str, Yq_tup, Yq_rol, Cq_isnn, Cq_isN, Iq_T, Iq_C, Cq_eqi, Cq_nei, Cq_eqs, Cq_nes, Cq_eqb, Cq_neb, Cq_lti, Cq_lei, Cq_gti, Cq_gei, Cq_isb, Cq_isnb, Cq_lts, Cq_inn1, Cq_nin1, e_neg, eo_ex, i_rng, i_rng2, y_aug, at_0, at_1, at_2, at_3, cxF_T, cxF_call, Bool.not_true, Bool.not_false, Bool.false_eq_true, if_true, if_false, tyB, PV.int.injEq, exists_eq_left, exists_eq_left', List.isEmpty_nil, List.isEmpty_cons, List.length_cons, List.length_nil, List.map_cons, List.map_nil, Option.map_some, startEnv, List.replicate, List.cons_append, List.nil_append, PV.int.injEq, ↓cG, ↓e_ddis, ↓y_afld, ↓y_atup, ↓t_tup, ↓ts_nil, ↓ts_cons, ↓e_dget1, ↓e_dget2, ↓e_dset, ↓e_lzip, ↓e_rev, ↓i_enum, ↓y_augs, ↓y_try, ↓y_rai, ↓h_nil, ↓h_ret, ↓h_isi, ↓e_ddist, ↓e_kdi, ↓e_lrng, ↓i_zip, ↓i_rvd, ↓y_del, ↓e_negU, ↓y_augf, ↓v_14, ↓n_14, ↓g_14, ↓t_14, ↓v_15, ↓n_15, ↓g_15, ↓t_15, ↓v_16, ↓n_16, ↓g_16, ↓t_16, ↓v_17, ↓n_17, ↓g_17, ↓t_17, ↓v_18, ↓n_18, ↓g_18, ↓t_18, ↓v_19, ↓n_19, ↓g_19, ↓t_19, ↓v_20, ↓n_20, ↓g_20, ↓t_20, ↓v_21, ↓n_21, ↓g_21, ↓t_21, ↓v_22, ↓n_22, ↓g_22, ↓t_22, ↓v_23, ↓n_23, ↓g_23, ↓t_23, u_intB, o_muli, o_modi, o_fdivi, cG, k_ix, ixO_L, ixO_D, ixO_F, k_sx, k_sf, k_fld, k_tr, k_ty, k_in, k_nin, k_int_i, k_int_s, k_int_b, k_int_n, k_nint, k_inr, k_ninr, k_len, k_tuple, k_list, k_sorted, k_min, k_q, k_lens, k_add, k_mul, k_slc, k_mth, mqO_L, lm_app, lm_ext, lm_pop, k_app, k_extT, k_extL, k_pop, k_isd, k_dget, k_dset, k_lzip, k_revT, k_revL, k_enT, k_enL, o_subb, k_ltT, k_gtT, k_ltL, k_lrng, k_zip, Uq_i, t_tupL, lm_idx, k_idx, k_del, k_mthS, sm_join, sm_sw, sm_low, k_join, k_sw, u_strS, k_pop0, nJ_nx, nJ_rt, nJ_bk, nJ_ct, inL_t, inL_i, inL_s, inL_b, inL_n, wipe_1, wipe_nil, app_0, app_k, sapp_0, sapp_k, List.getElem?_cons_zero, List.getElem?_cons_succ, List.set_cons_zero, List.set_cons_succ, List.append_assoc, List.length_append, Nat.reduceAdd, glob_MOST_NODES, g_MOST_NODES, *])
local macro_rules | `(tactic| walk_at "b") => `(tactic| first | (refine Br_d (fun h => ?_) (fun h => ?_) <;> walk_at "e") | (refine Br_e (fun h => ?_) (fun h => ?_) <;> walk_at "e") | (refine Br_i (fun h => ?_) (fun h => ?_) <;> walk_at "e"))
local macro_rules | `(tactic| walk_at "k") => `(tactic| first | (refine Br_e (fun h => absurd h (by decide)) (fun _ => ?_)) | (refine Br_d (fun h => absurd h (by decide)) (fun _ => ?_)) | (refine Br_e (fun _ => ?_) (fun h => absurd rfl h)) | (refine Br_d (fun _ => ?_) (fun h => absurd (by decide) h)) | (refine Br_e (fun _ => ?_) (fun h => absurd (by decide) h)) | (refine Br_d (fun h => absurd h (by omega)) (fun _ => ?_)) | (refine Br_d (fun _ => ?_) (fun h => absurd (by omega) h)) | (refine Br_e (fun h => absurd h (by omega)) (fun _ => ?_)) | (refine Br_e (fun _ => ?_) (fun h => absurd (by omega) h)))
/-! ### cut, walked -/
/-- the dict of the rows' numbers -/
def oD (rows : List (Nat × Nat)) : List (PV × PV) := rows.zipIdx.map fun q => (pr q.1, pvI q.2)
theorem dget_oDz {p : Nat × Nat} : ∀ {rows : List (Nat × Nat)} {m : Nat}, dget ((rows.zipIdx m).map fun q => (pr q.1, pvI q.2)) (pr p) = if p ∈ rows then some (pvI (rows.idxOf p + m)) else none
  | [], m => by simp [dget]
  | q :: rows, m => by
    rw [List.zipIdx_cons, List.map_cons]
    unfold dget
    by_cases h : q = p
    · subst h
      rw [if_pos (PV.beq_iff.mpr rfl), if_pos List.mem_cons_self, List.idxOf_cons_self, Nat.zero_add]
    · rw [if_neg (fun z => h (pr_inj (PV.beq_iff.mp z))), dget_oDz]
      by_cases hm : p ∈ rows
      · rw [if_pos hm, if_pos (List.mem_cons_of_mem _ hm), List.idxOf_cons, beq_false_of_ne h]
        simp only [cond_false]
        congr 2
        omega
      · rw [if_neg hm, if_neg (by rw [List.mem_cons]; rintro (z | z) <;> first | exact h z.symm | exact hm z)]
theorem dget_oD {rows : List (Nat × Nat)} {p : Nat × Nat} : dget (oD rows) (pr p) = if p ∈ rows then some (pvI (rows.idxOf p)) else none := dget_oDz
theorem dput_oD {rows : List (Nat × Nat)} {p : Nat × Nat} (h : p ∉ rows) : dput (oD rows) (pr p) (pvI rows.length) = oD (rows ++ [p]) := by
  unfold dput
  rw [dget_oD, if_neg h]
  simp [oD, List.zipIdx_append]
theorem oD_len {rows : List (Nat × Nat)} : (oD rows).length = rows.length := by simp [oD]
section
variable {n : Nat} {S : Store} {Q : PV → Store → Prop} {E : Exn → Store → Prop}
theorem cut_spec {g : List Nd} (hg : okG g) (g0 : 0 < g.length) {d : Nat} (hl : g.length * (d + 1) ≤ 900000) (hl2 : g.length ≤ 100000) (hd : d ≤ 100000)
    (hC : ∀ S', Grow S S' → Wq (callG tab n i_checked [gpv (cutG g d)] S') Q E) : Wq (callG tab (n + 1) i_cut [gpv g, .int (d : Nat)] S) Q E := by
  have wp := Cu.all hg g0 (d := d)
  refine Wq_callG tab_cut rfl ?_
  simp only [f_cut, b_cut, startEnv, List.map_cons, List.map_nil, List.length_cons, List.length_nil, List.replicate, List.cons_append, List.nil_append, Nat.reduceAdd, Nat.reduceSub]
  walk_at "e"
  refine ⟨by decide, rfl, by decide, by decide, by decide, ?_⟩
  refine W_whN (fun m ρ S' => ∃ (rows : List (Nat × Nat)) (a : Nat) (e6 e7 e8 e9 e10 : Option PV), ρ = [some (gpv g), some (.int (d : Nat)), some (.ref S.length), some (.ref (S.length + 1)), some (.ref (S.length + 2)), some (.int (a : Nat)), e6, e7, e8, e9, e10] ∧ Grow S S' ∧
      S'[S.length]? = some (.dic true (oD rows)) ∧ S'[S.length + 1]? = some (.lst (rows.map pr)) ∧ S'[S.length + 2]? = some (.lst (((rows.take a).map (cuNd g d rows)).map Nd.pv)) ∧
      Cu g d rows a ∧ cuGo g d m rows a = cuRows g d ∧ g.length * (d + 1) + 1 ≤ m + a) (g.length * (d + 1) + 1)
    ⟨[(0, 0)], 0, none, none, none, none, none, rfl, Grow.push _ _, by rw [app_0]; rfl, by rw [app_k]; rfl, by rw [app_k]; rfl, Cu.one g0, rfl, by omega⟩ (by show _ < 1000000; omega) ?_
  rintro m ρ S1 ⟨rows, a, e6, e7, e8, e9, e10, rfl, gr, o1, r1, f1, hc, hgo, hm⟩
  have hrl := hc.ok.len
  have hle := hc.le
  walk_at "e"
  simp only [r1]
  walk_at "e"
  simp only [List.length_map]
  refine Br_d (fun hlt => ?_) (fun hge => ?_)
  · have hlt : a < rows.length := by omega
    obtain ⟨m, rfl⟩ : ∃ k, m = k + 1 := ⟨m - 1, by omega⟩
    have hra : rows[a]? = some rows[a] := List.getElem?_eq_getElem hlt
    have hpm := List.getElem_mem hlt
    generalize hpe : rows[a] = p at *
    obtain ⟨p1, p2⟩ := hc.ok.lt p hpm
    have hst := hc.step hg hra
    unfold cuGo at hgo
    rw [hra] at hgo
    simp only at hgo
    have hat := at_nd p1
    walk_at "e"
    try simp only [r1]
    walk_at "e"
    rw [at_nat (by omega) (by simpa using hlt)]
    rw [Int.toNat_natCast, List.getElem?_map, hra]
    simp only [Option.map_some, pr, pvI, gpv]
    walk_at "e"
    refine ⟨_, _, rfl, rfl, .inl trivial, ?_⟩
    walk_at "e"
    rw [hat]
    -- a node that stays as it is, or is cut
    have fin1 : ∀ (x : Nd) (S' : Store) (e8 e9 e10 : Option PV), S' = S1.set (S.length + 2) (.lst (((rows.take a).map (cuNd g d rows)).map Nd.pv ++ [x.pv])) → cuNx g d rows p = rows → cuNd g d rows p = x →
        ∃ m', m' < m + 1 ∧ ∃ (rows' : List (Nat × Nat)) (a' : Nat) (e6' e7' e8' e9' e10' : Option PV), [some (PV.tup (g.map Nd.pv)), some (.int (d : Nat)), some (.ref S.length), some (.ref (S.length + 1)), some (.ref (S.length + 2)), some (.int ((a : Int) + 1)), some (.int (p.1 : Nat)), some (.int (p.2 : Nat)), e8, e9, e10] =
          [some (PV.tup (g.map Nd.pv)), some (.int (d : Nat)), some (.ref S.length), some (.ref (S.length + 1)), some (.ref (S.length + 2)), some (.int (a' : Nat)), e6', e7', e8', e9', e10'] ∧ Grow S S' ∧
          S'[S.length]? = some (.dic true (oD rows')) ∧ S'[S.length + 1]? = some (.lst (rows'.map pr)) ∧ S'[S.length + 2]? = some (.lst (((rows'.take a').map (cuNd g d rows')).map Nd.pv)) ∧
          Cu g d rows' a' ∧ cuGo g d m' rows' a' = cuRows g d ∧ g.length * (d + 1) + 1 ≤ m' + a' := by
      intro x S' e8 e9 e10 hS hnx hnd
      rw [hnx] at hst hgo
      subst hS
      refine ⟨m, by omega, rows, a + 1, _, _, _, _, _, rfl, gr.set (by omega), set_ne o1 (by omega), set_ne r1 (by omega), ?_, hst, hgo, by omega⟩
      rw [set_at f1, List.take_succ_eq_append_getElem hlt, List.map_append, List.map_append, hpe]
      simp only [List.map_cons, List.map_nil, hnd]
    cases e : g.getD p.1 default with
    | tup c ps =>
      simp only [Nd.pv]
      walk_at "e"
      walk_at "k"
      walk_at "e"
      rw [e] at hat
      refine Br_e (fun hpd => ?_) (fun hpd => ?_)
      · have hpd : p.2 = d := by omega
        walk_at "e"
        try simp only [f1]
        walk_at "e"
        try simp only [f1]
        refine ⟨by decide, by simp only [List.length_map, List.length_take, nsz]; omega, ?_⟩
        refine fin1 (.atom z_cut) _ _ _ _ rfl ?_ ?_
        · unfold cuNx
          rw [if_pos ⟨by rw [e]; rfl, hpd⟩]
        · unfold cuNd
          rw [e]
          simp only [hpd, if_true]
      · have hpd : p.2 ≠ d := fun z => hpd (by omega)
        walk_at "e"
        rw [hat]
        simp only [Nd.pv]
        walk_at "e"
        walk_at "k"
        walk_at "e"
        refine ⟨by decide, ?_⟩
        rw [hat]
        simp only [Nd.pv]
        walk_at "e"
        have hps := (partsO_lt hg p1).1
        rw [e] at hps
        simp only [Nd.parts] at hps
        have hnx : cuNx g d rows p = (ps.map fun j => (j, p.2 + 1)).foldl addP rows := by
          unfold cuNx
          rw [if_neg (fun z => hpd z.2), e]
          rfl
        have hokr : ∀ t, okR g.length (d + 1) (((ps.take t).map fun j => (j, p.2 + 1)).foldl addP rows) := fun t => hc.ok.fold fun q hq => by
          obtain ⟨j, hj, rfl⟩ := List.mem_map.mp hq
          have := (partsO_lt hg p1).2 j (by rw [e]; exact List.mem_of_mem_take hj)
          exact ⟨this, by simp only; omega⟩
        have hS1 := lt_at f1
        have hgl := gr.len
        refine Lp_X (ps.map pvI) (fun t ρ S' => ∃ (e9 e10 : Option PV) (rs : List (Nat × Nat)), ρ = [some (PV.tup (g.map Nd.pv)), some (.int (d : Nat)), some (.ref S.length), some (.ref (S.length + 1)), some (.ref (S.length + 2)), some (.int ((a : Int) + 1)), some (.int (p.1 : Nat)), some (.int (p.2 : Nat)), some (.ref S1.length), e9, e10] ∧ Grow S S' ∧
            rs = ((ps.take t).map fun j => (j, p.2 + 1)).foldl addP rows ∧ S'[S.length]? = some (.dic true (oD rs)) ∧ S'[S.length + 1]? = some (.lst (rs.map pr)) ∧ S'[S.length + 2]? = some (.lst (((rows.take a).map (cuNd g d rows)).map Nd.pv)) ∧ S'[S1.length]? = some (.lst ((ps.take t).map fun j => pvI (rs.idxOf (j, p.2 + 1)))))
          ⟨_, _, rows, rfl, gr.trans (Grow.push _ _), rfl, app_old o1 _, app_old r1 _, app_old f1 _, by rw [app_0]; rfl⟩ (by show _ < 1000000; rw [List.length_map]; omega) (fun t ρ S' hI => nx_seq _ _ (Grow.refl _)) ?_ ?_
        · rintro t ht ρ S2 ⟨e9', e10', rs, rfl, gr2, hrs, o2, r2, f2, n2⟩
          have ht' : t < ps.length := by simpa using ht
          rw [List.getElem_map]
          have hk := hokr t
          have hk1 := hokr (t + 1)
          have et : ((ps.take (t + 1)).map fun j => (j, p.2 + 1)).foldl addP rows = addP rs (ps[t], p.2 + 1) := by
            rw [hrs, List.take_succ_eq_append_getElem ht', List.map_append, List.foldl_append]
            rfl
          rw [← hrs] at hk
          rw [et] at hk1 ⊢
          have hold : ∀ j ∈ ps.take t, (j, p.2 + 1) ∈ rs := fun j hj => by
            rw [hrs, foldP_mem]
            exact .inr (List.mem_map.mpr ⟨j, hj, rfl⟩)
          clear hrs
          have hkl := hk.len
          rw [show pvI ps[t] = PV.int (ps[t] : Nat) from rfl]
          walk_at "e"
          refine ⟨by decide, ?_⟩
          rw [show ((p.2 : Nat) : Int) + 1 = ((p.2 + 1 : Nat) : Int) by omega]
          try simp only [o2]
          walk_at "e"
          refine ⟨rfl, ?_⟩
          rw [show PV.tup [PV.int (ps[t] : Nat), PV.int ((p.2 + 1 : Nat) : Int)] = pr (ps[t], p.2 + 1) from rfl, dget_oD]
          have tT : ∀ rs' : List (Nat × Nat), (∀ j ∈ ps.take t, rs'.idxOf (j, p.2 + 1) = rs.idxOf (j, p.2 + 1)) → (ps.take (t + 1)).map (fun j => pvI (rs'.idxOf (j, p.2 + 1))) = (ps.take t).map (fun j => pvI (rs.idxOf (j, p.2 + 1))) ++ [pvI (rs'.idxOf (ps[t], p.2 + 1))] := fun rs' h => by
            rw [List.take_succ_eq_append_getElem ht', List.map_append]
            congr 1
            exact List.map_congr_left fun j hj => by rw [h j hj]
          refine Br_J (fun ρ S' => ρ = [some (PV.tup (g.map Nd.pv)), some (.int (d : Nat)), some (.ref S.length), some (.ref (S.length + 1)), some (.ref (S.length + 2)), some (.int ((a : Int) + 1)), some (.int (p.1 : Nat)), some (.int (p.2 : Nat)), some (.ref S1.length), some (.int (ps[t] : Nat)), some (pr (ps[t], p.2 + 1))] ∧ Grow S S' ∧
              S'[S.length]? = some (.dic true (oD (addP rs (ps[t], p.2 + 1)))) ∧ S'[S.length + 1]? = some (.lst ((addP rs (ps[t], p.2 + 1)).map pr)) ∧ S'[S.length + 2]? = some (.lst (((rows.take a).map (cuNd g d rows)).map Nd.pv)) ∧ S'[S1.length]? = some (.lst ((ps.take t).map fun j => pvI (rs.idxOf (j, p.2 + 1))))) (fun hb => ?_) (fun hb => ?_) ?_
          · have hnm : (ps[t], p.2 + 1) ∈ rs := Classical.byContradiction fun z => by
              rw [if_neg z] at hb
              simp at hb
            have ea : addP rs (ps[t], p.2 + 1) = rs := if_pos hnm
            rw [ea]
            walk_at "e"
            exact ⟨trivial, gr2, o2, r2, f2, n2⟩
          · have hnm : (ps[t], p.2 + 1) ∉ rs := fun z => by
              rw [if_pos z] at hb
              simp at hb
            have ea : addP rs (ps[t], p.2 + 1) = rs ++ [(ps[t], p.2 + 1)] := if_neg hnm
            rw [ea]
            walk_at "e"
            try simp only [r2]
            walk_at "e"
            try simp only [o2]
            refine ⟨⟨rfl, by rw [oD_len]; simp only [nsz]; omega⟩, ?_⟩
            rw [List.length_map, show PV.int (rs.length : Nat) = pvI rs.length from rfl, dput_oD hnm]
            walk_at "e"
            have r3 : (S2.set S.length (.dic true (oD (rs ++ [(ps[t], p.2 + 1)]))))[S.length + 1]? = _ := set_ne r2 (by omega)
            try simp only [r3]
            walk_at "e"
            try simp only [r3]
            refine ⟨by simp only [List.length_map, nsz]; omega, ?_⟩
            refine ⟨trivial, (gr2.set (by omega)).set (by omega), set_ne (set_at o2) (by omega), ?_, set_ne (set_ne f2 (by omega)) (by omega), set_ne (set_ne n2 (by omega)) (by omega)⟩
            rw [set_at r3, List.map_append]
            rfl
          · rintro ρ S3 ⟨rfl, gr3, o3, r3, f3, n3⟩
            have hmem : (ps[t], p.2 + 1) ∈ addP rs (ps[t], p.2 + 1) := addP_mem.mpr (.inr rfl)
            walk_at "e"
            try simp only [n3]
            walk_at "e"
            try simp only [o3]
            walk_at "e"
            refine ⟨rfl, ?_⟩
            rw [dget_oD, if_pos hmem]
            walk_at "e"
            try simp only [n3]
            refine ⟨by simp only [List.length_map, List.length_take, nsz]; omega, ?_⟩
            refine ⟨_, _, _, rfl, gr3.set (by omega), rfl, set_ne o3 (by omega), set_ne r3 (by omega), set_ne f3 (by omega), ?_⟩
            rw [set_at n3, tT _ fun j hj => ?_]
            unfold addP
            split
            · rfl
            · exact idxOf_pre (hold j hj)
        · rintro ρ S2 ⟨e9', e10', rs, hρ, gr2, hrs, o2, r2, f2, n2⟩
          subst hρ
          rw [List.length_map, List.take_length] at hrs n2
          rw [← hnx] at hrs
          walk_at "e"
          try simp only [f2]
          walk_at "e"
          rw [hat]
          simp only [Nd.pv]
          walk_at "e"
          try simp only [n2]
          walk_at "e"
          try simp only [f2]
          refine ⟨by decide, by simp only [List.length_map, List.length_take, nsz]; omega, ?_⟩
          rw [← hrs] at hst hgo
          obtain ⟨r, hr⟩ : ∃ r, rs = rows ++ r := by rw [hrs]; exact cuNx_pre
          refine ⟨m, by omega, rs, a + 1, _, _, _, _, _, rfl, gr2.set (by omega), set_ne o2 (by omega), set_ne r2 (by omega), ?_, hst, hgo, by omega⟩
          rw [set_at f2]
          congr 2
          have hltr : a < rs.length := by rw [hr, List.length_append]; omega
          have hra2 : rs[a] = p := by
            have : rs[a]? = some p := by rw [hr, List.getElem?_append_left hlt, hra]
            exact (List.getElem?_eq_some_iff.mp this).2
          rw [List.take_succ_eq_append_getElem hltr, List.map_append, List.map_append, hra2]
          congr 1
          · rw [hr, List.take_append_of_le_length hle]
            congr 1
            refine List.map_congr_left fun q hq => ?_
            obtain ⟨b, hb, eb⟩ := List.mem_iff_getElem.mp hq
            rw [List.length_take] at hb
            obtain ⟨i, l⟩ := q
            refine (cuNd_pre fun c2 ps2 e2 hl2 j hj => hc.cl b i l (by omega) ?_ c2 ps2 e2 hl2 j hj).symm
            rw [List.getElem?_eq_getElem (by omega)]
            rw [List.getElem_take] at eb
            rw [eb]
          · simp only [List.map_cons, List.map_nil]
            congr 1
            unfold cuNd
            rw [e]
            simp only [if_neg hpd, Nd.pv, List.map_map]
            rfl
    | _ =>
      rw [e] at hat
      simp only [Nd.pv]
      walk_at "e"
      walk_at "k"
      walk_at "e"
      rw [hat]
      simp only [Nd.pv]
      walk_at "e"
      walk_at "k"
      walk_at "e"
      try simp only [f1]
      walk_at "e"
      rw [hat]
      simp only [Nd.pv]
      walk_at "e"
      try simp only [f1]
      refine ⟨by simp only [List.length_map, List.length_take, nsz]; omega, ?_⟩
      refine fin1 (g.getD p.1 default) _ _ _ _ (by rw [e]; rfl) ?_ ?_
      · unfold cuNx
        split
        · rfl
        · rw [e]
          rfl
      · unfold cuNd
        rw [e]
  · have he : a = rows.length := by omega
    obtain ⟨m, rfl⟩ : ∃ k, m = k + 1 := ⟨m - 1, by omega⟩
    unfold cuGo at hgo
    rw [List.getElem?_eq_none (by omega)] at hgo
    simp only at hgo
    rw [he, List.take_length, hgo] at f1
    walk_at "e"
    try simp only [f1]
    walk_at "e"
    exact hC S1 gr
end
end LD
set_option maxRecDepth 100000
namespace LD
open L3
local macro_rules | `(tactic| walk_at "e") => `(tactic| try simp -dsimp only [↓y_cons, ↓y_if, ↓y_asub, ↓W_rt, ↓W_ex, ↓W_fr, ↓W_lc, ↓W_pass, ↓W_brk, ↓W_cnt, ↓W_retn, ↓W_nil, ↓nxt_nx, ↓nxt_rt, ↓nxt_bk, ↓nxt_ct, ↓retK_rt, ↓retK_nx, ↓e_con, ↓e_glo, ↓e_tup, ↓e_lst, ↓e_bin, ↓e_negi, ↓e_nt, ↓T_idx, ↓T_cal, ↓T_bf, ↓T_bin, ↓T_tup, ↓T_fld, ↓T_mth, ↓T_ife, ↓T_var, ↓T_glo, ↓T_con, ↓T_cmp, ↓T_chn, ↓T_isi, ↓T_nt, ↓T_and, ↓T_or, ↓e_and, ↓e_or, ↓e_ife, ↓e_cmp, ↓e_chn, ↓e_idx, ↓e_slc, ↓e_fld, ↓e_cal, ↓e_mth, ↓e_dnew, ↓e_lens, ↓m_fn, ↓Iq_R, ↓e_bf1, ↓e_bf, ↓e_isi, ↓es_nil, ↓es_cons, ↓eo_no, ↓i_seq, ↓q_tup, ↓q_rol, ↓q_str, ↓o_addi, ↓o_subi, ↓o_p9, ↓o_slct, ↓u_lenT, ↓u_lenC, ↓u_int, ↓u_abs, ↓u_max, ↓u_min, ↓u_tupT, ↓u_lstT, ↓u_lstC, ↓Br_t, ↓Br_f, ↓Br_n, ↓Tq_bl, ↓Tq_int, ↓Tq_tup, ↓Tq_rol, ↓Tq_non, ↓Gq_s, ↓Yq_non, ↓Yq_bl, ↓Yq_int, ↓Yq_str, ↓Yq_tup, ↓Yq_rol, ↓Cq_isnn, ↓Cq_isN, ↓Iq_T, ↓Iq_C, ↓Cq_eqi, ↓Cq_nei, ↓Cq_eqs, ↓Cq_nes, ↓Cq_eqb, ↓Cq_neb, ↓Cq_lti, ↓Cq_lei, ↓Cq_gti, ↓Cq_gei, ↓Cq_isb, ↓Cq_isnb, ↓Cq_lts, ↓Cq_inn1, ↓Cq_nin1, ↓v_0, ↓n_0, ↓g_0, ↓t_0, ↓v_1, ↓n_1, ↓g_1, ↓t_1, ↓v_2, ↓n_2, ↓g_2, ↓t_2, ↓v_3, ↓n_3, ↓g_3, ↓t_3, ↓v_4, ↓n_4, ↓g_4, ↓t_4, ↓v_5, ↓n_5, ↓g_5, ↓t_5, ↓v_6, ↓n_6, ↓g_6, ↓t_6, ↓v_7, ↓n_7, ↓g_7, ↓t_7, ↓v_8, ↓n_8, ↓g_8, ↓t_8, ↓v_9, ↓n_9, ↓g_9, ↓t_9, ↓v_10, ↓n_10, ↓g_10, ↓t_10, ↓v_11, ↓n_11, ↓g_11, ↓t_11, ↓v_12, ↓n_12, ↓g_12, ↓t_12, ↓v_13, ↓n_13, ↓g_13, ↓t_13, Iq_R, Br_t, Br_f, Br_n, Tq_bl, Tq_int, Tq_tup, Tq_rol, Tq_non, Gq_s, Yq_non, Yq_bl, Yq_int, Yq_str, Yq_tup, Yq_rol, Cq_isnn, Cq_isN, Iq_T, Iq_C, Cq_eqi, Cq_nei, Cq_eqs, Cq_nes, Cq_eqb, Cq_neb, Cq_lti, Cq_lei, Cq_gti, Cq_gei, Cq_isb, Cq_isnb, Cq_lts, Cq_inn1, Cq_nin1, e_neg, eo_ex, i_rng, i_rng2, y_aug, at_0, at_1, at_2, at_3, cxF_T, cxF_call, Bool.not_true, Bool.not_false, Bool.false_eq_true, if_true, if_false, tyB, PV.int.injEq, exists_eq_left, exists_eq_left', List.isEmpty_nil, List.isEmpty_cons, List.length_cons, List.length_nil, List.map_cons, List.map_nil, Option.map_some, startEnv, List.replicate, List.cons_append, List.nil_append, PV.int.injEq, ↓cG, ↓e_ddis, ↓y_afld, ↓y_atup, ↓t_tup, ↓ts_nil, ↓ts_cons, ↓e_dget1, ↓e_dget2, ↓e_dset, ↓e_lzip, ↓e_rev, ↓i_enum, ↓y_augs, ↓y_try, ↓y_rai, ↓h_nil, ↓h_ret, ↓h_isi, ↓e_ddist, ↓e_kdi, ↓e_lrng, ↓i_zip, ↓i_rvd, ↓y_del, ↓e_negU, ↓y_augf, ↓v_14, ↓n_14, ↓g_14, ↓t_14, ↓v_15, ↓n_15, ↓g_15, ↓t_15, ↓v_16, ↓n_16, ↓g_16, ↓t_16, ↓v_17, ↓n_17, ↓g_17, ↓t_17, ↓v_18, ↓n_18, ↓g_18, ↓t_18, ↓v_19, ↓n_19, ↓g_19, ↓t_19, ↓v_20, ↓n_20, ↓g_20, ↓t_20, ↓v_21, ↓n_21, ↓g_21, ↓t_21, ↓v_22, ↓n_22, ↓g_22, ↓t_22, ↓v_23, ↓n_23, ↓g_23, ↓t_23, u_intB, o_muli, o_modi, o_fdivi, cG, k_ix, ixO_L, ixO_D, ixO_F, k_sx, k_sf, k_fld, k_tr, k_ty, k_in, k_nin, k_int_i, k_int_s, k_int_b, k_int_n, k_nint, k_inr, k_ninr, k_len, k_tuple, k_list, k_sorted, k_min, k_q, k_lens, k_add, k_mul, k_slc, k_mth, mqO_L, lm_app, lm_ext, lm_pop, k_app, k_extT, k_extL, k_pop, k_isd, k_dget, k_dset, k_lzip, k_revT, k_revL, k_enT, k_enL, o_subb, k_ltT, k_gtT, k_ltL, k_lrng, k_zip, Uq_i, t_tupL, lm_idx, k_idx, k_del, k_mthS, sm_join, sm_sw, sm_low, k_join, k_sw, u_strS, k_pop0, nJ_nx, nJ_rt, nJ_bk, nJ_ct, inL_t, inL_i, inL_s, inL_b, inL_n, wipe_1, wipe_nil, app_0, app_k, sapp_0, sapp_k, List.getElem?_cons_zero, List.getElem?_cons_succ, List.set_cons_zero, List.set_cons_succ, List.append_assoc, List.length_append, Nat.reduceAdd, glob_MOST_NODES, g_MOST_NODES])
local macro_rules | `(tactic| walk_at "s") => `(tactic| try simp -dsimp only [↓y_cons, ↓y_if, ↓y_asub, ↓W_rt, ↓W_ex, ↓W_fr, ↓W_lc, ↓W_pass, ↓W_brk, ↓W_cnt, ↓W_retn, ↓W_nil, ↓nxt_nx, ↓nxt_rt, ↓nxt_bk, ↓nxt_ct, ↓retK_rt, ↓retK_nx, ↓e_con, ↓e_glo, ↓e_tup, ↓e_lst, ↓e_bin, ↓e_negi, ↓e_nt, ↓T_idx, ↓T_cal, ↓T_bf, ↓T_bin, ↓T_tup, ↓T_fld, ↓T_mth, ↓T_ife, ↓T_var, ↓T_glo, ↓T_con, ↓T_cmp, ↓T_chn, ↓T_isi, ↓T_nt, ↓T_and, ↓T_or, ↓e_and, ↓e_or, ↓e_ife, ↓e_cmp, ↓e_chn, ↓e_idx, ↓e_slc, ↓e_fld, ↓e_cal, ↓e_mth, ↓e_dnew, ↓e_lens, ↓m_fn, ↓Iq_R, ↓e_bf1, ↓e_bf, ↓e_isi, ↓es_nil, ↓es_cons, ↓eo_no, ↓i_seq, ↓q_tup, ↓q_rol, ↓q_str, ↓o_addi, ↓o_subi, ↓o_p9, ↓o_slct, ↓u_lenT, ↓u_lenC, ↓u_int, ↓u_abs, ↓u_max, ↓u_min, ↓u_tupT, ↓u_lstT, ↓u_lstC, ↓Br_t, ↓Br_f, ↓Br_n, ↓Tq_bl, ↓Tq_int, ↓Tq_tup, ↓Tq_rol, ↓Tq_non, ↓Gq_s, ↓Yq_non, ↓Yq_bl, ↓Yq_int, ↓Yq_str, ↓Yq_tup, ↓Yq_rol, ↓Cq_isnn, ↓Cq_isN, ↓Iq_T, ↓Iq_C, ↓Cq_eqi, ↓Cq_nei, ↓Cq_eqs, ↓Cq_nes, ↓Cq_eqb, ↓Cq_neb, ↓Cq_lti, ↓Cq_lei, ↓Cq_gti, ↓Cq_gei, ↓Cq_isb, ↓Cq_isnb, ↓Cq_lts, ↓Cq_inn1, ↓Cq_nin1, ↓v_0, ↓n_0, ↓g_0, ↓t_0, ↓v_1, ↓n_1, ↓g_1, ↓t_1, ↓v_2, ↓n_2, ↓g_2, ↓t_2, ↓v_3, ↓n_3, ↓g_3, ↓t_3, ↓v_4, ↓n_4, ↓g_4, ↓t_4, ↓v_5, ↓n_5, ↓g_5, ↓t_5, ↓v_6, ↓n_6, ↓g_6, ↓t_6, ↓v_7, ↓n_7, ↓g_7, ↓t_7, ↓v_8, ↓n_8, ↓g_8, ↓t_8, ↓v_9, ↓n_9, ↓g_9, ↓t_9, ↓v_10, ↓n_10, ↓g_10, ↓t_10, ↓v_11, ↓n_11, ↓g_11, ↓t_11, ↓v_12, ↓n_12, ↓g_12, ↓t_12, ↓v_13, ↓n_13, ↓g_13, ↓t_13, Iq_R, Br_t, Br_f, Br_n, Tq_bl, Tq_int, Tq_tup, Tq_rol, Tq_non, Gq_s, Yq_non, Yq_bl, Yq_int, Yq_str, Yq_tup, Yq_rol, Cq_isnn, Cq_isN, Iq_T, Iq_C, Cq_eqi, Cq_nei, Cq_eqs, Cq_nes, Cq_eqb, Cq_neb, Cq_lti, Cq_lei, Cq_gti, Cq_gei, Cq_isb, Cq_isnb, Cq_lts, Cq_inn1, Cq_nin1, e_neg, eo_ex, i_rng, i_rng2, y_aug, at_0, at_1, at_2, at_3, cxF_T, cxF_call, Bool.not_true, Bool.not_false, Bool.false_eq_true, if_true, if_false, tyB, PV.int.injEq, exists_eq_left, exists_eq_left', List.isEmpty_nil, List.isEmpty_cons, List.length_cons, List.length_nil, List.map_cons, List.map_nil, Option.map_some, startEnv, List.replicate, List.cons_append, List.nil_append, PV.int.injEq, ↓cG, ↓e_ddis, ↓y_afld, ↓y_atup, ↓t_tup, ↓ts_nil, ↓ts_cons, ↓e_dget1, ↓e_dget2, ↓e_dset, ↓e_lzip, ↓e_rev, ↓i_enum, ↓y_augs, ↓y_try, ↓y_rai, ↓h_nil, ↓h_ret, ↓h_isi, ↓e_ddist, ↓e_kdi, ↓e_lrng, ↓i_zip, ↓i_rvd, ↓y_del, ↓e_negU, ↓y_augf, ↓v_14, ↓n_14, ↓g_14, ↓t_14, ↓v_15, ↓n_15, ↓g_15, ↓t_15, ↓v_16, ↓n_16, ↓g_16, ↓t_16, ↓v_17, ↓n_17, ↓g_17, ↓t_17, ↓v_18, ↓n_18, ↓g_18, ↓t_18, ↓v_19, ↓n_19, ↓g_19, ↓t_19, ↓v_20, ↓n_20, ↓g_20, ↓t_20, ↓v_21, ↓n_21, ↓g_21, ↓t_21, ↓v_22, ↓n_22, ↓g_22, ↓t_22, ↓v_23, ↓n_23, ↓g_23, ↓t_23, u_intB, o_muli, o_modi, o_fdivi, cG, k_ix, ixO_L, ixO_D, ixO_F, k_sx, k_sf, k_fld, k_tr, k_ty, k_in, k_nin, k_int_i, k_int_s, k_int_b, k_int_n, k_nint, k_inr, k_ninr, k_len, k_tuple, k_list, k_sorted, k_min, k_q, k_lens, k_add, k_mul, k_slc, k_mth, mqO_L, lm_app, lm_ext, lm_pop, k_app, k_extT, k_extL, k_pop, k_isd, k_dget, k_dset, k_lzip, k_revT, k_revL, k_enT, k_enL, o_subb, k_ltT, k_gtT, k_ltL, k_lrng, k_zip, Uq_i, t_tupL, lm_idx, k_idx, k_del, k_mthS, sm_join, sm_sw, sm_low, k_join, k_sw, u_strS, k_pop0, nJ_nx, nJ_rt, nJ_bk, nJ_ct, inL_t, inL_i, inL_s, inL_b, inL_n, wipe_1, wipe_nil, app_0, app_k, sapp_0, sapp_k, List.getElem?_cons_zero, List.getElem?_cons_succ, List.set_cons_zero, List.set_cons_succ, List.append_assoc, List.length_append, Nat.reduceAdd, glob_MOST_NODES, g_MOST_NODES, *])
local macro_rules | `(tactic| walk_at "b") => `(tactic| first | (refine Br_d (fun h => ?_) (fun h => ?_) <;> walk_at "e") | (refine Br_e (fun h => ?_) (fun h => ?_) <;> walk_at "e") | (refine Br_i (fun h => ?_) (fun h => ?_) <;> walk_at "e"))
local macro_rules | `(tactic| walk_at "k") => `(tactic| first | (refine Br_e (fun h => absurd h (by decide)) (fun _ => ?_)) | (refine Br_d (fun h => absurd h (by decide)) (fun _ => ?_)) | (refine Br_e (fun _ => ?_) (fun h => absurd rfl h)) | (refine Br_d (fun _ => ?_) (fun h => absurd (by decide) h)) | (refine Br_e (fun _ => ?_) (fun h => absurd (by decide) h)) | (refine Br_d (fun h => absurd h (by omega)) (fun _ => ?_)) | (refine Br_d (fun _ => ?_) (fun h => absurd (by omega) h)) | (refine Br_e (fun h => absurd h (by omega)) (fun _ => ?_)) | (refine Br_e (fun _ => ?_) (fun h => absurd (by omega) h)))
/-! ### the laws' least graph, walked -/
/-- the laws' table: kind, (number, node) -/
def mt (K : List Nat) (fs : List Nat) : List (PV × PV) := fs.zipIdx.map fun q => (kd K q.1, .tup [pvI q.2, pvI q.1])
theorem mt_len {K fs : List Nat} : (mt K fs).length = fs.length := by simp [mt]
theorem mt_keys {K fs : List Nat} : (mt K fs).map (·.1) = fs.map (kd K) := by
  unfold mt
  rw [List.map_map]
  refine List.ext_getElem? fun i => ?_
  simp only [List.getElem?_map, List.getElem?_zipIdx, Nat.zero_add]
  cases fs[i]? <;> rfl
theorem dget_mtz {K : List Nat} {k : PV} : ∀ {fs : List Nat} {m : Nat}, dget ((fs.zipIdx m).map fun q => (kd K q.1, PV.tup [pvI q.2, pvI q.1])) k = (ixOf k (fs.map (kd K))).map fun i => PV.tup [pvI (i + m), pvI (fs.getD i 0)]
  | [], _ => rfl
  | a :: fs, m => by
    simp only [List.zipIdx_cons, List.map_cons, dget, ixOf]
    split
    · simp
    · rw [dget_mtz (fs := fs)]
      cases ixOf k (fs.map (kd K)) with
      | none => rfl
      | some i =>
        simp only [Option.map_some]
        rw [show i + (m + 1) = i + 1 + m by omega]
        rfl
theorem dget_mt {K fs : List Nat} {a : Nat} : dget (mt K fs) (kd K a) = (ordOf K fs a).map fun i => PV.tup [pvI i, pvI (fs.getD i 0)] := dget_mtz (m := 0)
theorem mt_app {K fs : List Nat} {a : Nat} : mt K (fs ++ [a]) = mt K fs ++ [(kd K a, .tup [pvI fs.length, pvI a])] := by simp [mt, List.zipIdx_append]
theorem ixOf_self' {k : PV} : ∀ {l : List PV}, k ∈ l → (ixOf k l).isSome = true
  | [], h => by cases h
  | j :: r, h => by
    unfold ixOf
    split
    · rfl
    · rename_i hne
      rcases List.mem_cons.mp h with rfl | h
      · exact absurd (PV.beq_iff.mpr rfl) hne
      · have := ixOf_self' h
        revert this
        cases ixOf k r <;> simp
section
variable {n : Nat} {S : Store} {Q : PV → Store → Prop} {E : Exn → Store → Prop}
theorem lparts_spec {nd : Nd} (hP : ∀ S', Grow S S' → S'[S.length]? = some (.lst (nd.parts.map pvI)) → Q (.ref S.length) S') : Wq (callG tab (n + 1) i__law_parts [nd.pv] S) Q E := by
  refine Wq_callG tab__law_parts rfl ?_
  simp only [f__law_parts, b__law_parts, startEnv, List.map_cons, List.map_nil, List.length_cons, List.length_nil, List.replicate, List.cons_append, List.nil_append, Nat.reduceAdd, Nat.reduceSub]
  walk_at "e"
  cases nd <;> simp only [Nd.pv] <;> walk_at "e"
  · walk_at "k"; walk_at "e"; exact ⟨by decide, hP _ (Grow.push _ _) at_push⟩
  · walk_at "k"; walk_at "e"; exact ⟨by decide, hP _ (Grow.push _ _) at_push⟩
  · walk_at "k"; walk_at "e"; exact ⟨by decide, hP _ (Grow.push _ _) at_push⟩
  · walk_at "k"; walk_at "e"; exact ⟨by decide, hP _ (Grow.push _ _) at_push⟩
  · walk_at "k"; walk_at "e"; exact hP _ (Grow.push _ _) at_push
/-- how deep the walk may go from here -/
structure Deep (g : List Nd) (K : List Nat) (ok : Nat → List Nat → Nat → Prop) : Prop where
  z : ∀ fs a, ¬ ok 0 fs a
  s : ∀ u fs a, ok (u + 1) fs a → (ordOf K fs a).isSome = false → a < g.length → ∀ w fs', DF g K (fs ++ [a]) w fs' → ∀ j ∈ ptsOf g a, ok u fs' j
theorem Deep.unm {g : List Nd} {K : List Nat} : Deep g K fun u fs _ => unm g K fs < u where
  z := fun _ _ h => by omega
  s := fun u fs a h hs ha w fs' hD j _ => by
    have := unm_lt ha hs
    have := hD.unm
    omega
theorem met_specM {g : List Nd} {K : List Nat} (hg : okG g) (hK : K.length = g.length) (hl : g.length ≤ 950) {ok : Nat → List Nat → Nat → Prop} (hok : Deep g K ok) {kp dp : Nat} (hne : dp ≠ kp) : ∀ {u n : Nat} {fs : List Nat} {a : Nat} {S : Store} {Q : PV → Store → Prop} {E : Exn → Store → Prop}, ok u fs a → a < g.length → fs.length + unm g K fs ≤ g.length → S[kp]? = some (.lst (K.map pvI)) → S[dp]? = some (.dic false (mt K fs)) →
    (∀ S' fs', DF g K fs [a] fs' → fs'.length + unm g K fs' ≤ g.length → Fr [dp] S S' → S'[dp]? = some (.dic false (mt K fs')) → Q .non S') →
    Wq (callG tab (n + u + 1) i__law_met [gpv g, .ref kp, .int (a : Nat), .ref dp] S) Q E := by
  intro u
  induction u with
  | zero => intro n fs a S Q E h; exact absurd h (hok.z _ _)
  | succ u ih =>
    intro n fs a S Q E hu ha hfl hk hd hP
    have hka := lookK (K := K) (i := a) (by omega)
    refine Wq_callG tab__law_met rfl ?_
    simp only [f__law_met, b__law_met, startEnv, List.map_cons, List.map_nil, List.length_cons, List.length_nil, List.replicate, List.cons_append, List.nil_append, Nat.reduceAdd, Nat.reduceSub]
    walk_at "e"
    simp only [hk]
    walk_at "e"
    rw [hka]
    walk_at "e"
    simp only [hd]
    rw [dget_mt]
    refine ⟨rfl, ?_⟩
    by_cases hs : (ordOf K fs a).isSome = true
    · obtain ⟨i, hi⟩ := Option.isSome_iff_exists.mp hs
      rw [hi]
      simp only [Option.map_some, Option.isSome_some]
      walk_at "e"
      exact hP S fs (.seen hs .nil) hfl (Fr.refl _) hd
    · have hs : (ordOf K fs a).isSome = false := by simpa using hs
      have hno : ordOf K fs a = none := by simpa using hs
      rw [hno]
      simp only [Option.map_none, Option.isSome_none]
      walk_at "e"
      simp only [hd, mt_len]
      walk_at "e"
      refine ⟨by decide, ?_⟩
      simp only [hk]
      walk_at "e"
      rw [hka]
      walk_at "e"
      refine ⟨⟨rfl, by simp only [nsz]; omega⟩, ?_⟩
      have hput : dput (mt K fs) (kd K a) (PV.tup [PV.int (fs.length : Nat), PV.int (a : Nat)]) = mt K (fs ++ [a]) := by
        rw [mt_app, dput, dget_mt, hno]
        rfl
      rw [hput]
      have d1 : (S.set dp (.dic false (mt K (fs ++ [a]))))[dp]? = _ := set_at hd
      have k1 : (S.set dp (.dic false (mt K (fs ++ [a]))))[kp]? = _ := set_ne hk hne
      have f1 : Fr [dp] S (S.set dp (.dic false (mt K (fs ++ [a])))) := (Fr.refl _).set (.inl (by simp))
      generalize S.set dp (.dic false (mt K (fs ++ [a]))) = S1 at *
      have hun := unm_lt ha hs
      have hpl := parts_lt hg ha
      simp only [gpv]
      walk_at "e"
      rw [at_nd ha]
      walk_at "e"
      refine lparts_spec (n := n + u) fun S2 g2 l2 => ?_
      have d2 := g2.at d1
      have k2 := g2.at k1
      have f2 : Fr [dp] S S2 := f1.trans (Fr.grow g2)
      have hdl := lt_at d1
      generalize S1.length = l at *
      walk_at "e"
      simp only [l2]
      have hpts : (g.getD a default).parts = ptsOf g a := rfl
      rw [hpts] at l2 hpl
      refine Lp_X ((ptsOf g a).map pvI) (fun t ρ S' => ∃ e4 fs', ρ = [some (.tup (g.map Nd.pv)), some (.ref kp), some (.int (a : Nat)), some (.ref dp), e4] ∧ DF g K (fs ++ [a]) ((ptsOf g a).take t) fs' ∧ fs'.length + unm g K fs' ≤ g.length ∧ Fr [dp] S S' ∧ S'[kp]? = some (.lst (K.map pvI)) ∧ S'[dp]? = some (.dic false (mt K fs')) ∧ S'[l]? = some (.lst ((ptsOf g a).map pvI)))
        ⟨_, fs ++ [a], rfl, .nil, by simp; omega, f2, k2, d2, l2⟩ (by show _ < 1000000; simp; omega) (fun t ρ S' hI => ?_) ?_ ?_
      · obtain ⟨e4, fs', rfl, _, _, _, _, _, hl'⟩ := hI
        exact nx_ref hl'
      · rintro t ht ρ S3 ⟨e4, fs', rfl, hD, hfl', f3, k3, d3, l3⟩
        have ht' : t < (ptsOf g a).length := by simpa using ht
        rw [List.getElem_map]
        have hj := hpl.2 _ (List.getElem_mem ht')
        have hjm := List.getElem_mem ht'
        have htk : (ptsOf g a).take (t + 1) = (ptsOf g a).take t ++ [(ptsOf g a)[t]] := List.take_succ_eq_append_getElem ht'
        generalize (ptsOf g a)[t] = j at *
        have hu2 := hD.unm
        simp only [pvI]
        walk_at "e"
        refine ih (n := n) (fs := fs') (hok.s u fs a hu hs ha _ fs' hD j hjm) hj hfl' k3 d3 fun S4 fs4 hD4 hfl4 f4 d4 => ?_
        have k4 := f4.at_ _ _ (by simpa using fun h => hne h.symm) k3
        have l4 := f4.at_ _ _ (by simp; omega) l3
        exact ⟨_, fs4, rfl, by rw [htk]; exact hD.app hD4, hfl4, f3.trans f4, k4, d4, l4⟩
      · rintro ρ S3 ⟨e4, fs', rfl, hD, hfl', f3, k3, d3, l3⟩
        rw [List.length_map, List.take_length] at hD
        walk_at "e"
        exact hP S3 fs' (.new hs (by rw [List.append_nil]; exact hD)) hfl' f3 d3
theorem lkinds_spec {g : List Nd} (hg : okG g) (h0 : 0 < g.length) (hl : g.length ≤ 950) (hP : ∀ S' q, Grow S S' → S'[q]? = some (.lst ((lawK g).map pvI)) → Q (.ref q) S') :
    Wq (callG tab (n + 1) i__law_kinds [gpv g] S) Q E := by
  refine Wq_callG tab__law_kinds rfl ?_
  simp only [f__law_kinds, b__law_kinds, startEnv, List.map_cons, List.map_nil, List.length_cons, List.length_nil, List.replicate, List.cons_append, List.nil_append, Nat.reduceAdd, Nat.reduceSub]
  walk_at "e"
  refine ⟨by decide, ?_⟩
  simp only [gpv]
  walk_at "e"
  have hlen0 : (-2 ^ 63 ≤ (((g.map Nd.pv).length : Nat) : Int)) ∧ (((g.map Nd.pv).length : Nat) : Int) < 2 ^ 63 ∧ 1 * (((g.map Nd.pv).length : Nat) : Int).toNat ≤ nsz := by
    simp only [List.length_map, nsz]
    omega
  refine ⟨hlen0, ?_⟩
  have hz : (List.replicate (((g.map Nd.pv).length : Nat) : Int).toNat [PV.int 0]).flatten = (List.replicate g.length 0).map pvI := by
    rw [List.flatten_replicate_singleton, List.length_map, Int.toNat_natCast, List.map_replicate]
    rfl
  rw [hz]
  have hf0 : (S ++ [MO.lst [PV.int 0], MO.lst ((List.replicate g.length 0).map pvI)])[S.length + 1]? = some (.lst ((List.replicate g.length 0).map pvI)) := by
    rw [app_k]
    rfl
  have g0 : Grow S (S ++ [MO.lst [PV.int 0], MO.lst ((List.replicate g.length 0).map pvI)]) := Grow.push _ _
  generalize S ++ [MO.lst [PV.int 0], MO.lst ((List.replicate g.length 0).map pvI)] = S1 at *
  refine W_whN (fun m ρ S' => ∃ (f b c : Nat) (K : List Nat) (q : Nat) (e4 e5 e6 e7 e8 : Option PV), ρ = [some (.tup (g.map Nd.pv)), some (.ref q), some (.int (b : Nat)), some (.int (c : Nat)), e4, e5, e6, e7, e8] ∧ Grow S S' ∧ S'[q]? = some (.lst (K.map pvI)) ∧ K.length = g.length ∧ lkGo g f b c K = lawK g ∧ g.length + 3 ≤ f + b ∧ c ≤ g.length ∧ m = g.length + 1 - b) (g.length + 1)
    ⟨g.length + 3, 0, 1, _, _, _, _, _, _, _, rfl, g0, hf0, by simp, rfl, by omega, by omega, by omega⟩ (by show g.length + 1 < 1000000; omega) ?_
  rintro m ρ S2 ⟨f, b, c, K, q, e4, e5, e6, e7, e8, rfl, g2, hq, hK, hgo, hf, hc, rfl⟩
  walk_at "e"
  refine Br_d (fun hlt => ?_) (fun hge => ?_)
  · have hlt : b < c := by omega
    walk_at "e"
    refine ⟨by decide, ?_⟩
    have hS2q := lt_at hq
    have hlS := g2.len
    have q3 := app_old hq [MO.dic true [], MO.lst []]
    have t3 : (S2 ++ [MO.dic true [], MO.lst []])[S2.length]? = some (.dic true (tabOf [])) := by rw [app_0]; rfl
    have p3 : (S2 ++ [MO.dic true [], MO.lst []])[S2.length + 1]? = some (.lst (([] : List Nat).map pvI)) := by rw [app_k]; rfl
    have g3 : Grow S (S2 ++ [MO.dic true [], MO.lst []]) := g2.push'
    have hkl : (lkeysL g K).length = g.length := by simp [lkeysL]
    refine Lp_X (g.map Nd.pv) (fun t ρ S' => ∃ (e6 e7 e8 : Option PV), ρ = [some (.tup (g.map Nd.pv)), some (.ref q), some (.int (c : Nat)), some (.int (c : Nat)), some (.ref S2.length), some (.ref (S2.length + 1)), e6, e7, e8] ∧ Grow S S' ∧ S'[q]? = some (.lst (K.map pvI)) ∧
        S'[S2.length]? = some (.dic true (tabOf (numF ((lkeysL g K).take t)).1)) ∧ S'[S2.length + 1]? = some (.lst ((numF ((lkeysL g K).take t)).2.map pvI)))
      ⟨_, _, _, rfl, g3, q3, t3, p3⟩ (by show _ < 1000000; simp; omega) (fun t ρ S' hI => nx_seq _ _ (Grow.refl _)) ?_ ?_
    · rintro t ht ρ S4 ⟨e6, e7, e8, rfl, g4, q4, t4, p4⟩
      have ht' : t < g.length := by simpa using ht
      rw [List.getElem_map]
      have hgt : g[t] = g.getD t default := by simp [ht']
      have hkt : (lkeysL g K)[t]'(by omega) = lkey g K t := by simp [lkeysL]
      rw [numF_take (by omega), hkt]
      have hnl := numF_len (keys := lkeysL g K) (i := t) (by omega)
      generalize hF : numF ((lkeysL g K).take t) = F at *
      obtain ⟨T, ns⟩ := F
      have hTl : T.length ≤ t := hnl.1
      have hnsl : ns.length = t := hnl.2
      have hpl := parts_lt hg ht'
      rw [hgt]
      unfold lkey
      generalize g.getD t default = z at *
      cases z with
      | tup c0 ps =>
        simp only [Nd.pv]
        walk_at "e"
        walk_at "k"
        walk_at "e"
        refine lc_ty ps pvI (fun j => pvI (at0 K j)) _ nx_seq (by simp [wipe]) (by show _ < 1000000; have : ps.length ≤ 1000 := hpl.1; omega) (by have : ps.length ≤ 1000 := hpl.1; simp only [nsz]; omega) (fun j hj S' g' => ?_) fun S5 g5 => ?_
        · have hjl : j < g.length := hpl.2 j hj
          simp only [wipe_1, List.set_cons_succ, List.set_cons_zero, pvI]
          walk_at "e"
          simp only [g'.at q4]
          walk_at "e"
          rw [at_pv (by omega)]
          exact ⟨_, rfl, Grow.refl _, rfl⟩
        walk_at "e"
        rw [show cutL [PV.str z_tuple, PV.str c0, PV.tup (List.map pvI ps)] none (some 2) = [PV.str z_tuple, PV.str c0] from rfl, o_addt]
        refine ⟨by simp only [List.length_map, List.length_cons, List.length_nil, nsz]; have : ps.length ≤ 1000 := hpl.1; omega, ?_⟩
        rw [show [PV.str z_tuple, PV.str c0] ++ ps.map (fun j => pvI (at0 K j)) = PV.str z_tuple :: PV.str c0 :: ps.map fun j => pvI (at0 K j) from rfl]
        have q5 := app_old (g5.at q4) [MO.lst (ps.map fun j => pvI (at0 K j))]
        have t5 := app_old (g5.at t4) [MO.lst (ps.map fun j => pvI (at0 K j))]
        have p5 := app_old (g5.at p4) [MO.lst (ps.map fun j => pvI (at0 K j))]
        have g5 : Grow S (S5 ++ [MO.lst (ps.map fun j => pvI (at0 K j))]) := g4.trans g5.push'
        generalize S5 ++ [MO.lst (ps.map fun j => pvI (at0 K j))] = S5 at *
        have hk : isKey true (PV.tup (PV.str z_tuple :: PV.str c0 :: ps.map fun j => pvI (at0 K j))) = true := by simp [isKey, isK, pvI]
        simp only [t5]
        refine ⟨hk, ?_⟩
        rw [dget_tab]
        cases hx : ixOf (PV.tup (PV.str z_tuple :: PV.str c0 :: ps.map fun j => pvI (at0 K j))) T with
        | some i =>
          have e : numStep (T, ns) (PV.tup (PV.str z_tuple :: PV.str c0 :: ps.map fun j => pvI (at0 K j))) = (T, ns ++ [i]) := by
            unfold numStep
            simp only [hx]
          rw [e]
          simp only [Option.map_some, Option.isSome_some]
          walk_at "e"
          simp only [p5]
          walk_at "e"
          simp only [t5]
          walk_at "e"
          rw [dget_tab, hx]
          refine ⟨hk, ?_⟩
          simp only [Option.map_some]
          walk_at "e"
          simp only [p5]
          refine ⟨by simp only [List.length_map, nsz]; omega, _, _, _, rfl, g5.set (by omega), ?_, ?_, ?_⟩
          · rw [List.getElem?_set_ne (by omega)]
            exact q5
          · rw [List.getElem?_set_ne (by omega)]
            exact t5
          · rw [set_at p5, List.map_append]
            rfl
        | none =>
          have e : numStep (T, ns) (PV.tup (PV.str z_tuple :: PV.str c0 :: ps.map fun j => pvI (at0 K j))) = (T ++ [(PV.tup (PV.str z_tuple :: PV.str c0 :: ps.map fun j => pvI (at0 K j)))], ns ++ [T.length]) := by
            unfold numStep
            simp only [hx]
          rw [e]
          simp only [Option.map_none, Option.isSome_none]
          walk_at "e"
          simp only [t5, tabOf_len]
          walk_at "e"
          refine ⟨⟨hk, by simp only [nsz]; omega⟩, ?_⟩
          have hput : dput (tabOf T) (PV.tup (PV.str z_tuple :: PV.str c0 :: ps.map fun j => pvI (at0 K j))) (PV.int (T.length : Nat)) = tabOf (T ++ [(PV.tup (PV.str z_tuple :: PV.str c0 :: ps.map fun j => pvI (at0 K j)))]) := by
            rw [dput, dget_tab, hx, tabOf_app]
            rfl
          rw [hput]
          have t6 : (S5.set S2.length (.dic true (tabOf (T ++ [(PV.tup (PV.str z_tuple :: PV.str c0 :: ps.map fun j => pvI (at0 K j)))]))))[S2.length]? = _ := set_at t5
          have p6 : (S5.set S2.length (.dic true (tabOf (T ++ [(PV.tup (PV.str z_tuple :: PV.str c0 :: ps.map fun j => pvI (at0 K j)))]))))[S2.length + 1]? = _ := set_ne p5 (by omega)
          have q6 : (S5.set S2.length (.dic true (tabOf (T ++ [(PV.tup (PV.str z_tuple :: PV.str c0 :: ps.map fun j => pvI (at0 K j)))]))))[q]? = _ := set_ne q5 (by omega)
          have g6 : Grow S (S5.set S2.length (.dic true (tabOf (T ++ [(PV.tup (PV.str z_tuple :: PV.str c0 :: ps.map fun j => pvI (at0 K j)))])))) := g5.set (by omega)
          generalize S5.set S2.length (.dic true (tabOf (T ++ [(PV.tup (PV.str z_tuple :: PV.str c0 :: ps.map fun j => pvI (at0 K j)))]))) = S6 at *
          have hget : dget (tabOf (T ++ [(PV.tup (PV.str z_tuple :: PV.str c0 :: ps.map fun j => pvI (at0 K j)))])) (PV.tup (PV.str z_tuple :: PV.str c0 :: ps.map fun j => pvI (at0 K j))) = some (pvI T.length) := by
            rw [dget_tab, ixOf_app, hx]
            simp only [beq_self, if_true, Option.map_some]
          simp only [p6]
          walk_at "e"
          simp only [t6]
          walk_at "e"
          rw [hget]
          refine ⟨hk, ?_⟩
          walk_at "e"
          simp only [p6]
          refine ⟨by simp only [List.length_map, nsz]; omega, _, _, _, rfl, g6.set (by omega), ?_, ?_, ?_⟩
          · rw [List.getElem?_set_ne (by omega)]
            exact q6
          · rw [List.getElem?_set_ne (by omega)]
            exact t6
          · rw [set_at p6, List.map_append]
            rfl
      | var c0 =>
        have t5 := t4
        have p5 := p4
        have q5 := q4
        have g5 := g4
        have hk : isKey true (PV.tup [.str z_var, .int c0]) = true := rfl
        simp only [Nd.pv]
        walk_at "e"
        walk_at "k"
        walk_at "e"
        simp only [t5]
        refine ⟨hk, ?_⟩
        rw [dget_tab]
        cases hx : ixOf (PV.tup [.str z_var, .int c0]) T with
        | some i =>
          have e : numStep (T, ns) (PV.tup [.str z_var, .int c0]) = (T, ns ++ [i]) := by
            unfold numStep
            simp only [hx]
          rw [e]
          simp only [Option.map_some, Option.isSome_some]
          walk_at "e"
          simp only [p5]
          walk_at "e"
          simp only [t5]
          walk_at "e"
          rw [dget_tab, hx]
          refine ⟨hk, ?_⟩
          simp only [Option.map_some]
          walk_at "e"
          simp only [p5]
          refine ⟨by simp only [List.length_map, nsz]; omega, _, _, _, rfl, g5.set (by omega), ?_, ?_, ?_⟩
          · rw [List.getElem?_set_ne (by omega)]
            exact q5
          · rw [List.getElem?_set_ne (by omega)]
            exact t5
          · rw [set_at p5, List.map_append]
            rfl
        | none =>
          have e : numStep (T, ns) (PV.tup [.str z_var, .int c0]) = (T ++ [(PV.tup [.str z_var, .int c0])], ns ++ [T.length]) := by
            unfold numStep
            simp only [hx]
          rw [e]
          simp only [Option.map_none, Option.isSome_none]
          walk_at "e"
          simp only [t5, tabOf_len]
          walk_at "e"
          refine ⟨⟨hk, by simp only [nsz]; omega⟩, ?_⟩
          have hput : dput (tabOf T) (PV.tup [.str z_var, .int c0]) (PV.int (T.length : Nat)) = tabOf (T ++ [(PV.tup [.str z_var, .int c0])]) := by
            rw [dput, dget_tab, hx, tabOf_app]
            rfl
          rw [hput]
          have t6 : (S4.set S2.length (.dic true (tabOf (T ++ [(PV.tup [.str z_var, .int c0])]))))[S2.length]? = _ := set_at t5
          have p6 : (S4.set S2.length (.dic true (tabOf (T ++ [(PV.tup [.str z_var, .int c0])]))))[S2.length + 1]? = _ := set_ne p5 (by omega)
          have q6 : (S4.set S2.length (.dic true (tabOf (T ++ [(PV.tup [.str z_var, .int c0])]))))[q]? = _ := set_ne q5 (by omega)
          have g6 : Grow S (S4.set S2.length (.dic true (tabOf (T ++ [(PV.tup [.str z_var, .int c0])])))) := g5.set (by omega)
          generalize S4.set S2.length (.dic true (tabOf (T ++ [(PV.tup [.str z_var, .int c0])]))) = S6 at *
          have hget : dget (tabOf (T ++ [(PV.tup [.str z_var, .int c0])])) (PV.tup [.str z_var, .int c0]) = some (pvI T.length) := by
            rw [dget_tab, ixOf_app, hx]
            simp only [beq_self, if_true, Option.map_some]
          simp only [p6]
          walk_at "e"
          simp only [t6]
          walk_at "e"
          rw [hget]
          refine ⟨hk, ?_⟩
          walk_at "e"
          simp only [p6]
          refine ⟨by simp only [List.length_map, nsz]; omega, _, _, _, rfl, g6.set (by omega), ?_, ?_, ?_⟩
          · rw [List.getElem?_set_ne (by omega)]
            exact q6
          · rw [List.getElem?_set_ne (by omega)]
            exact t6
          · rw [set_at p6, List.map_append]
            rfl
      | int c0 =>
        have t5 := t4
        have p5 := p4
        have q5 := q4
        have g5 := g4
        have hk : isKey true (PV.tup [.str z_int, .int c0]) = true := rfl
        simp only [Nd.pv]
        walk_at "e"
        walk_at "k"
        walk_at "e"
        simp only [t5]
        refine ⟨hk, ?_⟩
        rw [dget_tab]
        cases hx : ixOf (PV.tup [.str z_int, .int c0]) T with
        | some i =>
          have e : numStep (T, ns) (PV.tup [.str z_int, .int c0]) = (T, ns ++ [i]) := by
            unfold numStep
            simp only [hx]
          rw [e]
          simp only [Option.map_some, Option.isSome_some]
          walk_at "e"
          simp only [p5]
          walk_at "e"
          simp only [t5]
          walk_at "e"
          rw [dget_tab, hx]
          refine ⟨hk, ?_⟩
          simp only [Option.map_some]
          walk_at "e"
          simp only [p5]
          refine ⟨by simp only [List.length_map, nsz]; omega, _, _, _, rfl, g5.set (by omega), ?_, ?_, ?_⟩
          · rw [List.getElem?_set_ne (by omega)]
            exact q5
          · rw [List.getElem?_set_ne (by omega)]
            exact t5
          · rw [set_at p5, List.map_append]
            rfl
        | none =>
          have e : numStep (T, ns) (PV.tup [.str z_int, .int c0]) = (T ++ [(PV.tup [.str z_int, .int c0])], ns ++ [T.length]) := by
            unfold numStep
            simp only [hx]
          rw [e]
          simp only [Option.map_none, Option.isSome_none]
          walk_at "e"
          simp only [t5, tabOf_len]
          walk_at "e"
          refine ⟨⟨hk, by simp only [nsz]; omega⟩, ?_⟩
          have hput : dput (tabOf T) (PV.tup [.str z_int, .int c0]) (PV.int (T.length : Nat)) = tabOf (T ++ [(PV.tup [.str z_int, .int c0])]) := by
            rw [dput, dget_tab, hx, tabOf_app]
            rfl
          rw [hput]
          have t6 : (S4.set S2.length (.dic true (tabOf (T ++ [(PV.tup [.str z_int, .int c0])]))))[S2.length]? = _ := set_at t5
          have p6 : (S4.set S2.length (.dic true (tabOf (T ++ [(PV.tup [.str z_int, .int c0])]))))[S2.length + 1]? = _ := set_ne p5 (by omega)
          have q6 : (S4.set S2.length (.dic true (tabOf (T ++ [(PV.tup [.str z_int, .int c0])]))))[q]? = _ := set_ne q5 (by omega)
          have g6 : Grow S (S4.set S2.length (.dic true (tabOf (T ++ [(PV.tup [.str z_int, .int c0])])))) := g5.set (by omega)
          generalize S4.set S2.length (.dic true (tabOf (T ++ [(PV.tup [.str z_int, .int c0])]))) = S6 at *
          have hget : dget (tabOf (T ++ [(PV.tup [.str z_int, .int c0])])) (PV.tup [.str z_int, .int c0]) = some (pvI T.length) := by
            rw [dget_tab, ixOf_app, hx]
            simp only [beq_self, if_true, Option.map_some]
          simp only [p6]
          walk_at "e"
          simp only [t6]
          walk_at "e"
          rw [hget]
          refine ⟨hk, ?_⟩
          walk_at "e"
          simp only [p6]
          refine ⟨by simp only [List.length_map, nsz]; omega, _, _, _, rfl, g6.set (by omega), ?_, ?_, ?_⟩
          · rw [List.getElem?_set_ne (by omega)]
            exact q6
          · rw [List.getElem?_set_ne (by omega)]
            exact t6
          · rw [set_at p6, List.map_append]
            rfl
      | atom c0 =>
        have t5 := t4
        have p5 := p4
        have q5 := q4
        have g5 := g4
        have hk : isKey true (PV.tup [.str z_atom, .str c0]) = true := rfl
        simp only [Nd.pv]
        walk_at "e"
        walk_at "k"
        walk_at "e"
        simp only [t5]
        refine ⟨hk, ?_⟩
        rw [dget_tab]
        cases hx : ixOf (PV.tup [.str z_atom, .str c0]) T with
        | some i =>
          have e : numStep (T, ns) (PV.tup [.str z_atom, .str c0]) = (T, ns ++ [i]) := by
            unfold numStep
            simp only [hx]
          rw [e]
          simp only [Option.map_some, Option.isSome_some]
          walk_at "e"
          simp only [p5]
          walk_at "e"
          simp only [t5]
          walk_at "e"
          rw [dget_tab, hx]
          refine ⟨hk, ?_⟩
          simp only [Option.map_some]
          walk_at "e"
          simp only [p5]
          refine ⟨by simp only [List.length_map, nsz]; omega, _, _, _, rfl, g5.set (by omega), ?_, ?_, ?_⟩
          · rw [List.getElem?_set_ne (by omega)]
            exact q5
          · rw [List.getElem?_set_ne (by omega)]
            exact t5
          · rw [set_at p5, List.map_append]
            rfl
        | none =>
          have e : numStep (T, ns) (PV.tup [.str z_atom, .str c0]) = (T ++ [(PV.tup [.str z_atom, .str c0])], ns ++ [T.length]) := by
            unfold numStep
            simp only [hx]
          rw [e]
          simp only [Option.map_none, Option.isSome_none]
          walk_at "e"
          simp only [t5, tabOf_len]
          walk_at "e"
          refine ⟨⟨hk, by simp only [nsz]; omega⟩, ?_⟩
          have hput : dput (tabOf T) (PV.tup [.str z_atom, .str c0]) (PV.int (T.length : Nat)) = tabOf (T ++ [(PV.tup [.str z_atom, .str c0])]) := by
            rw [dput, dget_tab, hx, tabOf_app]
            rfl
          rw [hput]
          have t6 : (S4.set S2.length (.dic true (tabOf (T ++ [(PV.tup [.str z_atom, .str c0])]))))[S2.length]? = _ := set_at t5
          have p6 : (S4.set S2.length (.dic true (tabOf (T ++ [(PV.tup [.str z_atom, .str c0])]))))[S2.length + 1]? = _ := set_ne p5 (by omega)
          have q6 : (S4.set S2.length (.dic true (tabOf (T ++ [(PV.tup [.str z_atom, .str c0])]))))[q]? = _ := set_ne q5 (by omega)
          have g6 : Grow S (S4.set S2.length (.dic true (tabOf (T ++ [(PV.tup [.str z_atom, .str c0])])))) := g5.set (by omega)
          generalize S4.set S2.length (.dic true (tabOf (T ++ [(PV.tup [.str z_atom, .str c0])]))) = S6 at *
          have hget : dget (tabOf (T ++ [(PV.tup [.str z_atom, .str c0])])) (PV.tup [.str z_atom, .str c0]) = some (pvI T.length) := by
            rw [dget_tab, ixOf_app, hx]
            simp only [beq_self, if_true, Option.map_some]
          simp only [p6]
          walk_at "e"
          simp only [t6]
          walk_at "e"
          rw [hget]
          refine ⟨hk, ?_⟩
          walk_at "e"
          simp only [p6]
          refine ⟨by simp only [List.length_map, nsz]; omega, _, _, _, rfl, g6.set (by omega), ?_, ?_, ?_⟩
          · rw [List.getElem?_set_ne (by omega)]
            exact q6
          · rw [List.getElem?_set_ne (by omega)]
            exact t6
          · rw [set_at p6, List.map_append]
            rfl
      | name c0 c1 =>
        have t5 := t4
        have p5 := p4
        have q5 := q4
        have g5 := g4
        have hk : isKey true (PV.tup [.str z_name, .str c0, .int c1]) = true := rfl
        simp only [Nd.pv]
        walk_at "e"
        walk_at "k"
        walk_at "e"
        simp only [t5]
        refine ⟨hk, ?_⟩
        rw [dget_tab]
        cases hx : ixOf (PV.tup [.str z_name, .str c0, .int c1]) T with
        | some i =>
          have e : numStep (T, ns) (PV.tup [.str z_name, .str c0, .int c1]) = (T, ns ++ [i]) := by
            unfold numStep
            simp only [hx]
          rw [e]
          simp only [Option.map_some, Option.isSome_some]
          walk_at "e"
          simp only [p5]
          walk_at "e"
          simp only [t5]
          walk_at "e"
          rw [dget_tab, hx]
          refine ⟨hk, ?_⟩
          simp only [Option.map_some]
          walk_at "e"
          simp only [p5]
          refine ⟨by simp only [List.length_map, nsz]; omega, _, _, _, rfl, g5.set (by omega), ?_, ?_, ?_⟩
          · rw [List.getElem?_set_ne (by omega)]
            exact q5
          · rw [List.getElem?_set_ne (by omega)]
            exact t5
          · rw [set_at p5, List.map_append]
            rfl
        | none =>
          have e : numStep (T, ns) (PV.tup [.str z_name, .str c0, .int c1]) = (T ++ [(PV.tup [.str z_name, .str c0, .int c1])], ns ++ [T.length]) := by
            unfold numStep
            simp only [hx]
          rw [e]
          simp only [Option.map_none, Option.isSome_none]
          walk_at "e"
          simp only [t5, tabOf_len]
          walk_at "e"
          refine ⟨⟨hk, by simp only [nsz]; omega⟩, ?_⟩
          have hput : dput (tabOf T) (PV.tup [.str z_name, .str c0, .int c1]) (PV.int (T.length : Nat)) = tabOf (T ++ [(PV.tup [.str z_name, .str c0, .int c1])]) := by
            rw [dput, dget_tab, hx, tabOf_app]
            rfl
          rw [hput]
          have t6 : (S4.set S2.length (.dic true (tabOf (T ++ [(PV.tup [.str z_name, .str c0, .int c1])]))))[S2.length]? = _ := set_at t5
          have p6 : (S4.set S2.length (.dic true (tabOf (T ++ [(PV.tup [.str z_name, .str c0, .int c1])]))))[S2.length + 1]? = _ := set_ne p5 (by omega)
          have q6 : (S4.set S2.length (.dic true (tabOf (T ++ [(PV.tup [.str z_name, .str c0, .int c1])]))))[q]? = _ := set_ne q5 (by omega)
          have g6 : Grow S (S4.set S2.length (.dic true (tabOf (T ++ [(PV.tup [.str z_name, .str c0, .int c1])])))) := g5.set (by omega)
          generalize S4.set S2.length (.dic true (tabOf (T ++ [(PV.tup [.str z_name, .str c0, .int c1])]))) = S6 at *
          have hget : dget (tabOf (T ++ [(PV.tup [.str z_name, .str c0, .int c1])])) (PV.tup [.str z_name, .str c0, .int c1]) = some (pvI T.length) := by
            rw [dget_tab, ixOf_app, hx]
            simp only [beq_self, if_true, Option.map_some]
          simp only [p6]
          walk_at "e"
          simp only [t6]
          walk_at "e"
          rw [hget]
          refine ⟨hk, ?_⟩
          walk_at "e"
          simp only [p6]
          refine ⟨by simp only [List.length_map, nsz]; omega, _, _, _, rfl, g6.set (by omega), ?_, ?_, ?_⟩
          · rw [List.getElem?_set_ne (by omega)]
            exact q6
          · rw [List.getElem?_set_ne (by omega)]
            exact t6
          · rw [set_at p6, List.map_append]
            rfl
    · rintro ρ S4 ⟨e6, e7, e8, rfl, g4, q4, t4, p4⟩
      rw [List.length_map, List.take_of_length_le (by omega)] at t4 p4
      have hcn := nd_num (lkeysL g K)
      have hcl : nd (lkF g K) ≤ g.length := by
        have := nd_le (lkF g K)
        rwa [lkF_len] at this
      walk_at "e"
      simp only [t4, tabOf_len]
      rw [← hcn]
      have hf0 : ∃ f', f = f' + 1 := ⟨f - 1, by omega⟩
      obtain ⟨f', rfl⟩ := hf0
      refine ⟨g.length + 1 - c, by omega, f', c, nd (lkF g K), lkF g K, S2.length + 1, _, _, _, _, _, rfl, g4, p4, lkF_len, ?_, by omega, hcl, rfl⟩
      rw [← hgo, lkGo, if_pos hlt]
  · have hge : ¬ b < c := by omega
    have hKe : K = lawK g := by
      rw [← hgo]
      cases f with
      | zero => rfl
      | succ f => unfold lkGo; rw [if_neg hge]
    subst hKe
    walk_at "e"
    exact hP S2 q g2 hq
theorem grow_fr {S S2 S3 : Store} {d : Nat} (g : Grow S S2) (f : Fr [d] S2 S3) (h : S.length ≤ d) : Grow S S3 := ⟨S3.drop S.length, by
  have hl := Nat.le_trans g.len f.len
  refine List.ext_getElem? fun i => ?_
  by_cases hi : i < S.length
  · rw [List.getElem?_append_left hi]
    have e : S[i]? = some S[i] := by simp [hi]
    rw [e]
    exact f.at_ i _ (by simp; omega) (g.at e)
  · rw [List.getElem?_append_right (by omega), List.getElem?_drop]
    congr 1
    omega⟩
theorem ord_at {K fs : List Nat} (h : (fs.map (kd K)).Nodup) {t : Nat} (ht : t < fs.length) : ordOf K fs fs[t] = some t := by
  have hm : kd K fs[t] ∈ fs.map (kd K) := List.mem_map_of_mem (List.getElem_mem _)
  obtain ⟨i, hi⟩ := Option.isSome_iff_exists.mp (ixOf_self' hm)
  have hs := ixOf_sound hi
  have hil := (List.getElem?_eq_some_iff.mp hs).1
  have e1 : (fs.map (kd K))[i] = (fs.map (kd K))[t]'(by simpa using ht) := by
    rw [(List.getElem?_eq_some_iff.mp hs).2]
    simp
  have := (List.getElem_inj h).mp e1
  rw [ordOf, hi, this]
theorem lleast_specM {g : List Nd} (hg : okG g) (h0 : 0 < g.length) (hl : g.length ≤ 950) {ok : Nat → List Nat → Nat → Prop} (hok : Deep g (lawK g) ok) {u : Nat} (hu : ok u [] 0) (hP : ∀ S', Grow S S' → Q (gpv (leastL g)) S') :
    Wq (callG tab (n + u + 2) i__law_least [gpv g] S) Q E := by
  have hfin := lawK_fin hg h0
  refine Wq_callG tab__law_least rfl ?_
  simp only [f__law_least, b__law_least, startEnv, List.map_cons, List.map_nil, List.length_cons, List.length_nil, List.replicate, List.cons_append, List.nil_append, Nat.reduceAdd, Nat.reduceSub]
  walk_at "e"
  refine lkinds_spec (n := n + u) hg h0 hl fun S1 q g1 h1 => ?_
  have hK := hfin.len
  have hany := leastL_any hg h0 hfin
  have hDF := firstsK_DF (K := lawK g) hg h0
  rw [← hany] at hP
  unfold leastK at hP
  generalize hKe : lawK g = K at *
  walk_at "e"
  have g2 : Grow S (S1 ++ [.dic false []]) := g1.push'
  have d2 : (S1 ++ [MO.dic false []])[S1.length]? = some (.dic false (mt K [])) := at_push
  have q2 := app_old h1 [MO.dic false []]
  have hq1 := lt_at h1
  have hdl : S.length ≤ S1.length := g1.len
  generalize S1.length = d at *
  generalize S1 ++ [MO.dic false []] = S2 at *
  have hu0 : unm g K [] ≤ g.length := by
    unfold unm
    have := List.countP_le_length (p := fun i => (ordOf K [] i).isNone) (l := List.range g.length)
    simpa using this
  refine met_specM (n := n) (u := u) (fs := []) (a := 0) hg hK hl hok (by omega) hu h0 (by simpa using hu0) q2 d2 fun S3 fs hD hfl f3 d3 => ?_
  have hfs := hD.det hDF
  rw [← hfs] at hP
  have hnd := hD.nd (by simp)
  have hflt := hD.lt hg (by simp) (by simpa using h0)
  have hclo := hD.closed (by simp)
  have q3 := f3.at_ _ _ (by simp; omega) q2
  have hlf : fs.length ≤ g.length := by omega
  walk_at "e"
  refine ⟨by decide, ?_⟩
  have q4 := app_old q3 [MO.lst []]
  have d4 := app_old d3 [MO.lst []]
  have r4 : (S3 ++ [MO.lst []])[S3.length]? = some (.lst []) := at_push
  have g4 : Grow S (S3 ++ [MO.lst []]) := by
    exact (grow_fr g2 f3 hdl).push'
  have hd3 := lt_at d3
  have hq3 := lt_at q3
  generalize S3.length = r at *
  generalize S3 ++ [MO.lst []] = S4 at *
  refine y_lck rfl d4 ?_
  have q5 : (S4.set d (.fdc (mt K fs)))[q]? = _ := set_ne q4 (by omega)
  have d5 : (S4.set d (.fdc (mt K fs)))[d]? = _ := set_at d4
  have r5 : (S4.set d (.fdc (mt K fs)))[r]? = _ := set_ne r4 (by omega)
  have g5 : Grow S (S4.set d (.fdc (mt K fs))) := g4.set hdl
  generalize S4.set d (.fdc (mt K fs)) = S5 at *
  rw [W_fr]
  refine i_kys rfl d5 ?_
  have hkl : ((mt K fs).map (·.1)).length = fs.length := by rw [mt_keys, List.length_map]
  refine Lp_X ((mt K fs).map (·.1)) (fun t ρ S' => ∃ e4 e5 e6, ρ = [some (gpv g), some (.ref q), some (.ref d), some (.ref r), e4, e5, e6] ∧ Grow S S' ∧ S'[q]? = some (.lst (K.map pvI)) ∧ S'[d]? = some (.fdc (mt K fs)) ∧ S'[r]? = some (.lst ((fs.take t).map fun a => (relab g K fs a).pv)))
    ⟨_, _, _, rfl, g5, q5, d5, r5⟩ (by show _ < 1000000; rw [hkl]; omega) (fun t ρ S' hI => ?_) ?_ ?_
  · obtain ⟨e4, e5, e6, rfl, _, _, hd', _⟩ := hI
    exact nx_kys hd'
  · rintro t ht ρ S6 ⟨e4, e5, e6, rfl, g6, q6, d6, r6⟩
    have ht' : t < fs.length := by rw [hkl] at ht; exact ht
    have hke : ((mt K fs).map (·.1))[t] = kd K fs[t] := by
      have : ((mt K fs).map (·.1))[t]? = some (kd K fs[t]) := by rw [mt_keys]; simp [ht']
      exact (List.getElem?_eq_some_iff.mp this).2
    rw [hke]
    have ho := ord_at hnd ht'
    have hfm : fs[t] ∈ fs := List.getElem_mem _
    have hat := hflt _ hfm
    have hget : dget (mt K fs) (kd K fs[t]) = some (PV.tup [pvI t, pvI fs[t]]) := by
      rw [dget_mt, ho]
      simp [ht']
    have htk : (fs.take (t + 1)).map (fun a => (relab g K fs a).pv) = (fs.take t).map (fun a => (relab g K fs a).pv) ++ [(relab g K fs fs[t]).pv] := by rw [List.take_succ_eq_append_getElem ht', List.map_append]; rfl
    rw [htk]
    have hclt := hclo _ hfm
    generalize fs[t] = a at *
    have hpl := parts_lt hg hat
    rw [relab_N]
    unfold ptsOf at hclt
    walk_at "e"
    simp only [d6]
    walk_at "e"
    refine ⟨rfl, ?_⟩
    rw [hget]
    simp only [gpv, pvI]
    walk_at "e"
    rw [at_nd hat]
    walk_at "e"
    generalize g.getD a default = z at *
    cases z with
    | var c0 =>
      simp only [Nd.pv]
      walk_at "e"
      walk_at "k"
      walk_at "e"
      simp only [r6]
      walk_at "e"
      simp only [r6]
      refine ⟨by simp only [List.length_map, List.length_take, nsz]; omega, _, _, _, rfl, g6.set (by omega), ?_, ?_, ?_⟩
      · rw [List.getElem?_set_ne (by omega)]
        exact q6
      · rw [List.getElem?_set_ne (by omega)]
        exact d6
      · rw [set_at r6]
        rfl
    | int c0 =>
      simp only [Nd.pv]
      walk_at "e"
      walk_at "k"
      walk_at "e"
      simp only [r6]
      walk_at "e"
      simp only [r6]
      refine ⟨by simp only [List.length_map, List.length_take, nsz]; omega, _, _, _, rfl, g6.set (by omega), ?_, ?_, ?_⟩
      · rw [List.getElem?_set_ne (by omega)]
        exact q6
      · rw [List.getElem?_set_ne (by omega)]
        exact d6
      · rw [set_at r6]
        rfl
    | atom c0 =>
      simp only [Nd.pv]
      walk_at "e"
      walk_at "k"
      walk_at "e"
      simp only [r6]
      walk_at "e"
      simp only [r6]
      refine ⟨by simp only [List.length_map, List.length_take, nsz]; omega, _, _, _, rfl, g6.set (by omega), ?_, ?_, ?_⟩
      · rw [List.getElem?_set_ne (by omega)]
        exact q6
      · rw [List.getElem?_set_ne (by omega)]
        exact d6
      · rw [set_at r6]
        rfl
    | name c0 c1 =>
      simp only [Nd.pv]
      walk_at "e"
      walk_at "k"
      walk_at "e"
      simp only [r6]
      walk_at "e"
      simp only [r6]
      refine ⟨by simp only [List.length_map, List.length_take, nsz]; omega, _, _, _, rfl, g6.set (by omega), ?_, ?_, ?_⟩
      · rw [List.getElem?_set_ne (by omega)]
        exact q6
      · rw [List.getElem?_set_ne (by omega)]
        exact d6
      · rw [set_at r6]
        rfl
    | tup c0 ps =>
      simp only [Nd.pv]
      walk_at "e"
      walk_at "k"
      walk_at "e"
      refine lc_ty ps pvI (fun j => pvI ((ordOf K fs j).getD 0)) _ nx_seq (by simp [wipe]) (by show _ < 1000000; have : ps.length ≤ 1000 := hpl.1; omega) (by have : ps.length ≤ 1000 := hpl.1; simp only [nsz]; omega) (fun j hj S' g' => ?_) fun S7 g7 => ?_
      · have hjl : j < g.length := hpl.2 j hj
        obtain ⟨i, hi⟩ := Option.isSome_iff_exists.mp (hclt j hj)
        simp only [wipe_1, List.set_cons_succ, List.set_cons_zero, pvI]
        walk_at "e"
        simp only [g'.at q6]
        walk_at "e"
        rw [at_pv (by omega)]
        walk_at "e"
        simp only [g'.at d6]
        walk_at "e"
        rw [show pvI (at0 K j) = kd K j from rfl, dget_mt, hi]
        refine ⟨rfl, ?_⟩
        simp only [Option.map_some]
        walk_at "e"
        exact ⟨Grow.refl _, rfl⟩
      walk_at "e"
      refine ⟨by decide, ?_⟩
      rw [show cutL [PV.str z_tuple, PV.str c0, PV.tup (List.map pvI ps)] none (some 2) = [PV.str z_tuple, PV.str c0] from rfl, o_addt]
      refine ⟨by show 3 ≤ nsz; decide, ?_⟩
      have q8 := app_old (g7.at q6) [MO.lst (ps.map fun j => pvI ((ordOf K fs j).getD 0))]
      have d8 := app_old (g7.at d6) [MO.lst (ps.map fun j => pvI ((ordOf K fs j).getD 0))]
      have r8 := app_old (g7.at r6) [MO.lst (ps.map fun j => pvI ((ordOf K fs j).getD 0))]
      have g8 : Grow S (S7 ++ [MO.lst (ps.map fun j => pvI ((ordOf K fs j).getD 0))]) := g6.trans g7.push'
      generalize S7 ++ [MO.lst (ps.map fun j => pvI ((ordOf K fs j).getD 0))] = S8 at *
      walk_at "e"
      simp only [r8]
      walk_at "e"
      simp only [r8]
      refine ⟨by simp only [List.length_map, List.length_take, nsz]; omega, _, _, _, rfl, g8.set (by omega), ?_, ?_, ?_⟩
      · rw [List.getElem?_set_ne (by omega)]
        exact q8
      · rw [List.getElem?_set_ne (by omega)]
        exact d8
      · rw [set_at r8]
        simp only [relN, Nd.pv, List.map_map]
        rfl
  · rintro ρ S6 ⟨e4, e5, e6, rfl, g6, q6, d6, r6⟩
    rw [hkl, List.take_length] at r6
    refine ⟨mt K fs, d6, ?_⟩
    have r7 : (S6.set d (.dic false (mt K fs)))[r]? = _ := set_ne r6 (by omega)
    have g7 : Grow S (S6.set d (.dic false (mt K fs))) := g6.set hdl
    generalize S6.set d (.dic false (mt K fs)) = S7 at *
    walk_at "e"
    simp only [r7]
    walk_at "e"
    have := hP S7 g7
    rw [gpv, List.map_map] at this
    exact this
theorem lleast_spec {g : List Nd} (hg : okG g) (h0 : 0 < g.length) (hl : g.length ≤ 400) (hP : ∀ S', Grow S S' → Q (gpv (leastL g)) S') :
    Wq (callG tab (n + g.length + 3) i__law_least [gpv g] S) Q E :=
  lleast_specM (u := g.length + 1) hg h0 (by omega) Deep.unm (by
    have := List.countP_le_length (p := fun i => (ordOf (lawK g) [] i).isNone) (l := List.range g.length)
    unfold unm
    simp only [List.length_range] at this
    omega) hP
end
end LD
set_option maxRecDepth 100000
namespace LD
open L3
local macro_rules | `(tactic| walk_at "e") => `(tactic| try simp -dsimp only [↓y_cons, ↓y_if, ↓y_asub, ↓W_rt, ↓W_ex, ↓W_fr, ↓W_lc, ↓W_pass, ↓W_brk, ↓W_cnt, ↓W_retn, ↓W_nil, ↓nxt_nx, ↓nxt_rt, ↓nxt_bk, ↓nxt_ct, ↓retK_rt, ↓retK_nx, ↓e_con, ↓e_glo, ↓e_tup, ↓e_lst, ↓e_bin, ↓e_negi, ↓e_nt, ↓T_idx, ↓T_cal, ↓T_bf, ↓T_bin, ↓T_tup, ↓T_fld, ↓T_mth, ↓T_ife, ↓T_var, ↓T_glo, ↓T_con, ↓T_cmp, ↓T_chn, ↓T_isi, ↓T_nt, ↓T_and, ↓T_or, ↓e_and, ↓e_or, ↓e_ife, ↓e_cmp, ↓e_chn, ↓e_idx, ↓e_slc, ↓e_fld, ↓e_cal, ↓e_mth, ↓e_dnew, ↓e_lens, ↓m_fn, ↓Iq_R, ↓e_bf1, ↓e_bf, ↓e_isi, ↓es_nil, ↓es_cons, ↓eo_no, ↓i_seq, ↓q_tup, ↓q_rol, ↓q_str, ↓o_addi, ↓o_subi, ↓o_p9, ↓o_slct, ↓u_lenT, ↓u_lenC, ↓u_int, ↓u_abs, ↓u_max, ↓u_min, ↓u_tupT, ↓u_lstT, ↓u_lstC, ↓Br_t, ↓Br_f, ↓Br_n, ↓Tq_bl, ↓Tq_int, ↓Tq_tup, ↓Tq_rol, ↓Tq_non, ↓Gq_s, ↓Yq_non, ↓Yq_bl, ↓Yq_int, ↓Yq_str, ↓Yq_tup, ↓Yq_rol, ↓Cq_isnn, ↓Cq_isN, ↓Iq_T, ↓Iq_C, ↓Cq_eqi, ↓Cq_nei, ↓Cq_eqs, ↓Cq_nes, ↓Cq_eqb, ↓Cq_neb, ↓Cq_lti, ↓Cq_lei, ↓Cq_gti, ↓Cq_gei, ↓Cq_isb, ↓Cq_isnb, ↓Cq_lts, ↓Cq_inn1, ↓Cq_nin1, ↓v_0, ↓n_0, ↓g_0, ↓t_0, ↓v_1, ↓n_1, ↓g_1, ↓t_1, ↓v_2, ↓n_2, ↓g_2, ↓t_2, ↓v_3, ↓n_3, ↓g_3, ↓t_3, ↓v_4, ↓n_4, ↓g_4, ↓t_4, ↓v_5, ↓n_5, ↓g_5, ↓t_5, ↓v_6, ↓n_6, ↓g_6, ↓t_6, ↓v_7, ↓n_7, ↓g_7, ↓t_7, ↓v_8, ↓n_8, ↓g_8, ↓t_8, ↓v_9, ↓n_9, ↓g_9, ↓t_9, ↓v_10, ↓n_10, ↓g_10, ↓t_10, ↓v_11, ↓n_11, ↓g_11, ↓t_11, ↓v_12, ↓n_12, ↓g_12, ↓t_12, ↓v_13, ↓n_13, ↓g_13, ↓t_13, Iq_R, Br_t, Br_f, Br_n, Tq_bl, Tq_int, Tq_tup, Tq_rol, Tq_non, Gq_s, Yq_non, Yq_bl, Yq_int, Yq_str, Yq_tup, Yq_rol, Cq_isnn, Cq_isN, Iq_T, Iq_C, Cq_eqi, Cq_nei, Cq_eqs, Cq_nes, Cq_eqb, Cq_neb, Cq_lti, Cq_lei, Cq_gti, Cq_gei, Cq_isb, Cq_isnb, Cq_lts, Cq_inn1, Cq_nin1, e_neg, eo_ex, i_rng, i_rng2, y_aug, at_0, at_1, at_2, at_3, cxF_T, cxF_call, Bool.not_true, Bool.not_false, Bool.false_eq_true, if_true, if_false, tyB, PV.int.injEq, exists_eq_left, exists_eq_left', List.isEmpty_nil, List.isEmpty_cons, List.length_cons, List.length_nil, List.map_cons, List.map_nil, Option.map_some, startEnv, List.replicate, List.cons_append, List.nil_append, PV.int.injEq, ↓cG, ↓e_ddis, ↓y_afld, ↓y_atup, ↓t_tup, ↓ts_nil, ↓ts_cons, ↓e_dget1, ↓e_dget2, ↓e_dset, ↓e_lzip, ↓e_rev, ↓i_enum, ↓y_augs, ↓y_try, ↓y_rai, ↓h_nil, ↓h_ret, ↓h_isi, ↓e_ddist, ↓e_kdi, ↓e_lrng, ↓i_zip, ↓i_rvd, ↓y_del, ↓e_negU, ↓y_augf, ↓v_14, ↓n_14, ↓g_14, ↓t_14, ↓v_15, ↓n_15, ↓g_15, ↓t_15, ↓v_16, ↓n_16, ↓g_16, ↓t_16, ↓v_17, ↓n_17, ↓g_17, ↓t_17, ↓v_18, ↓n_18, ↓g_18, ↓t_18, ↓v_19, ↓n_19, ↓g_19, ↓t_19, ↓v_20, ↓n_20, ↓g_20, ↓t_20, ↓v_21, ↓n_21, ↓g_21, ↓t_21, ↓v_22, ↓n_22, ↓g_22, ↓t_22, ↓v_23, ↓n_23, ↓g_23, ↓t_23, u_intB, o_muli, o_modi, o_fdivi, cG, k_ix, ixO_L, ixO_D, ixO_F, k_sx, k_sf, k_fld, k_tr, k_ty, k_in, k_nin, k_int_i, k_int_s, k_int_b, k_int_n, k_nint, k_inr, k_ninr, k_len, k_tuple, k_list, k_sorted, k_min, k_q, k_lens, k_add, k_mul, k_slc, k_mth, mqO_L, lm_app, lm_ext, lm_pop, k_app, k_extT, k_extL, k_pop, k_isd, k_dget, k_dset, k_lzip, k_revT, k_revL, k_enT, k_enL, o_subb, k_ltT, k_gtT, k_ltL, k_lrng, k_zip, Uq_i, t_tupL, lm_idx, k_idx, k_del, k_mthS, sm_join, sm_sw, sm_low, k_join, k_sw, u_strS, k_pop0, nJ_nx, nJ_rt, nJ_bk, nJ_ct, inL_t, inL_i, inL_s, inL_b, inL_n, wipe_1, wipe_nil, app_0, app_k, sapp_0, sapp_k, List.getElem?_cons_zero, List.getElem?_cons_succ, List.set_cons_zero, List.set_cons_succ, List.append_assoc, List.length_append, Nat.reduceAdd, glob_MOST_NODES, g_MOST_NODES])
local macro_rules | `(tactic| walk_at "s") => `(tactic| try simp -dsimp only [↓y_cons, ↓y_if, ↓y_asub, ↓W_rt, ↓W_ex, ↓W_fr, ↓W_lc, ↓W_pass, ↓W_brk, ↓W_cnt, ↓W_retn, ↓W_nil, ↓nxt_nx, ↓nxt_rt, ↓nxt_bk, ↓nxt_ct, ↓retK_rt, ↓retK_nx, ↓e_con, ↓e_glo, ↓e_tup, ↓e_lst, ↓e_bin, ↓e_negi, ↓e_nt, ↓T_idx, ↓T_cal, ↓T_bf, ↓T_bin, ↓T_tup, ↓T_fld, ↓T_mth, ↓T_ife, ↓T_var, ↓T_glo, ↓T_con, ↓T_cmp, ↓T_chn, ↓T_isi, ↓T_nt, ↓T_and, ↓T_or, ↓e_and, ↓e_or, ↓e_ife, ↓e_cmp, ↓e_chn, ↓e_idx, ↓e_slc, ↓e_fld, ↓e_cal, ↓e_mth, ↓e_dnew, ↓e_lens, ↓m_fn, ↓Iq_R, ↓e_bf1, ↓e_bf, ↓e_isi, ↓es_nil, ↓es_cons, ↓eo_no, ↓i_seq, ↓q_tup, ↓q_rol, ↓q_str, ↓o_addi, ↓o_subi, ↓o_p9, ↓o_slct, ↓u_lenT, ↓u_lenC, ↓u_int, ↓u_abs, ↓u_max, ↓u_min, ↓u_tupT, ↓u_lstT, ↓u_lstC, ↓Br_t, ↓Br_f, ↓Br_n, ↓Tq_bl, ↓Tq_int, ↓Tq_tup, ↓Tq_rol, ↓Tq_non, ↓Gq_s, ↓Yq_non, ↓Yq_bl, ↓Yq_int, ↓Yq_str, ↓Yq_tup, ↓Yq_rol, ↓Cq_isnn, ↓Cq_isN, ↓Iq_T, ↓Iq_C, ↓Cq_eqi, ↓Cq_nei, ↓Cq_eqs, ↓Cq_nes, ↓Cq_eqb, ↓Cq_neb, ↓Cq_lti, ↓Cq_lei, ↓Cq_gti, ↓Cq_gei, ↓Cq_isb, ↓Cq_isnb, ↓Cq_lts, ↓Cq_inn1, ↓Cq_nin1, ↓v_0, ↓n_0, ↓g_0, ↓t_0, ↓v_1, ↓n_1, ↓g_1, ↓t_1, ↓v_2, ↓n_2, ↓g_2, ↓t_2, ↓v_3, ↓n_3, ↓g_3, ↓t_3, ↓v_4, ↓n_4, ↓g_4, ↓t_4, ↓v_5, ↓n_5, ↓g_5, ↓t_5, ↓v_6, ↓n_6, ↓g_6, ↓t_6, ↓v_7, ↓n_7, ↓g_7, ↓t_7, ↓v_8, ↓n_8, ↓g_8, ↓t_8, ↓v_9, ↓n_9, ↓g_9, ↓t_9, ↓v_10, ↓n_10, ↓g_10, ↓t_10, ↓v_11, ↓n_11, ↓g_11, ↓t_11, ↓v_12, ↓n_12, ↓g_12, ↓t_12, ↓v_13, ↓n_13, ↓g_13, ↓t_13, Iq_R, Br_t, Br_f, Br_n, Tq_bl, Tq_int, Tq_tup, Tq_rol, Tq_non, Gq_s, Yq_non, Yq_bl, Yq_int, Yq_str, Yq_tup, Yq_rol, Cq_isnn, Cq_isN, Iq_T, Iq_C, Cq_eqi, Cq_nei, Cq_eqs, Cq_nes, Cq_eqb, Cq_neb, Cq_lti, Cq_lei, Cq_gti, Cq_gei, Cq_isb, Cq_isnb, Cq_lts, Cq_inn1, Cq_nin1, e_neg, eo_ex, i_rng, i_rng2, y_aug, at_0, at_1, at_2, at_3, cxF_T, cxF_call, Bool.not_true, Bool.not_false, Bool.false_eq_true, if_true, if_false, tyB, PV.int.injEq, exists_eq_left, exists_eq_left', List.isEmpty_nil, List.isEmpty_cons, List.length_cons, List.length_nil, List.map_cons, List.map_nil, Option.map_some, startEnv, List.replicate, List.cons_append, List.nil_append, PV.int.injEq, ↓cG, ↓e_ddis, ↓y_afld, ↓y_atup, ↓t_tup, ↓ts_nil, ↓ts_cons, ↓e_dget1, ↓e_dget2, ↓e_dset, ↓e_lzip, ↓e_rev, ↓i_enum, ↓y_augs, ↓y_try, ↓y_rai, ↓h_nil, ↓h_ret, ↓h_isi, ↓e_ddist, ↓e_kdi, ↓e_lrng, ↓i_zip, ↓i_rvd, ↓y_del, ↓e_negU, ↓y_augf, ↓v_14, ↓n_14, ↓g_14, ↓t_14, ↓v_15, ↓n_15, ↓g_15, ↓t_15, ↓v_16, ↓n_16, ↓g_16, ↓t_16, ↓v_17, ↓n_17, ↓g_17, ↓t_17, ↓v_18, ↓n_18, ↓g_18, ↓t_18, ↓v_19, ↓n_19, ↓g_19, ↓t_19, ↓v_20, ↓n_20, ↓g_20, ↓t_20, ↓v_21, ↓n_21, ↓g_21, ↓t_21, ↓v_22, ↓n_22, ↓g_22, ↓t_22, ↓v_23, ↓n_23, ↓g_23, ↓t_23, u_intB, o_muli, o_modi, o_fdivi, cG, k_ix, ixO_L, ixO_D, ixO_F, k_sx, k_sf, k_fld, k_tr, k_ty, k_in, k_nin, k_int_i, k_int_s, k_int_b, k_int_n, k_nint, k_inr, k_ninr, k_len, k_tuple, k_list, k_sorted, k_min, k_q, k_lens, k_add, k_mul, k_slc, k_mth, mqO_L, lm_app, lm_ext, lm_pop, k_app, k_extT, k_extL, k_pop, k_isd, k_dget, k_dset, k_lzip, k_revT, k_revL, k_enT, k_enL, o_subb, k_ltT, k_gtT, k_ltL, k_lrng, k_zip, Uq_i, t_tupL, lm_idx, k_idx, k_del, k_mthS, sm_join, sm_sw, sm_low, k_join, k_sw, u_strS, k_pop0, nJ_nx, nJ_rt, nJ_bk, nJ_ct, inL_t, inL_i, inL_s, inL_b, inL_n, wipe_1, wipe_nil, app_0, app_k, sapp_0, sapp_k, List.getElem?_cons_zero, List.getElem?_cons_succ, List.set_cons_zero, List.set_cons_succ, List.append_assoc, List.length_append, Nat.reduceAdd, glob_MOST_NODES, g_MOST_NODES, *])
local macro_rules | `(tactic| walk_at "b") => `(tactic| first | (refine Br_d (fun h => ?_) (fun h => ?_) <;> walk_at "e") | (refine Br_e (fun h => ?_) (fun h => ?_) <;> walk_at "e") | (refine Br_i (fun h => ?_) (fun h => ?_) <;> walk_at "e"))
local macro_rules | `(tactic| walk_at "k") => `(tactic| first | (refine Br_e (fun h => absurd h (by decide)) (fun _ => ?_)) | (refine Br_d (fun h => absurd h (by decide)) (fun _ => ?_)) | (refine Br_e (fun _ => ?_) (fun h => absurd rfl h)) | (refine Br_d (fun _ => ?_) (fun h => absurd (by decide) h)) | (refine Br_e (fun _ => ?_) (fun h => absurd (by decide) h)) | (refine Br_d (fun h => absurd h (by omega)) (fun _ => ?_)) | (refine Br_d (fun _ => ?_) (fun h => absurd (by omega) h)) | (refine Br_e (fun h => absurd h (by omega)) (fun _ => ?_)) | (refine Br_e (fun _ => ?_) (fun h => absurd (by omega) h)))
/-! ### the laws' drawn graphs -/
/-- plain nodes -/
def gok (g : List Nd) : Prop := ∀ x ∈ g, pl 5 x.pv = true
/-- an atom -/
def atomB (a : Sy) : Bool := decide (1 ≤ a.length) && (decide (a.length ≤ 12) && ((match a with | c :: _ => decide (97 ≤ c) && decide (c ≤ 122) | [] => false) && a.all fun c => (decide (97 ≤ c) && decide (c ≤ 122)) || (decide (48 ≤ c) && decide (c ≤ 57))))
/-- a node as point 3 says, apart from its parts' numbers -/
def Nd.good : Nd → Bool
  | .var n => decide (0 ≤ n) && decide (n ≤ 1000000000)
  | .int n => decide (-1000000000 ≤ n) && decide (n ≤ 1000000000)
  | .atom a => atomB a
  | .name a n => atomB a && (decide (0 ≤ n) && decide (n ≤ 1000000000))
  | .tup a ps => atomB a && (decide (1 ≤ ps.length) && decide (ps.length ≤ 6))
theorem atomB_cp {a : Sy} (h : atomB a = true) : a.all (· < 1114112) = true := by
  unfold atomB at h
  simp only [Bool.and_eq_true, decide_eq_true_eq, List.all_eq_true, Bool.or_eq_true] at h ⊢
  intro c hc
  have := h.2.2.2 c hc
  omega
theorem atomB_app {a : Sy} {c : Nat} (h : atomB a = true) (hl : a.length < 12) (hc : (97 ≤ c ∧ c ≤ 122) ∨ (48 ≤ c ∧ c ≤ 57)) : atomB (a ++ [c]) = true := by
  cases a with
  | nil => cases h
  | cons d a =>
    unfold atomB at h ⊢
    simp only [List.cons_append, Bool.and_eq_true, decide_eq_true_eq, List.all_eq_true, Bool.or_eq_true, List.length_cons, List.length_append, List.length_nil] at h hl ⊢
    refine ⟨by omega, by omega, h.2.2.1, fun e he => ?_⟩
    rcases List.mem_cons.mp he with rfl | he
    · exact h.2.2.2 _ List.mem_cons_self
    · rcases List.mem_append.mp he with he | he
      · exact h.2.2.2 e (List.mem_cons_of_mem _ he)
      · rw [List.mem_singleton.mp he]
        exact hc
theorem Strm_lt {S : Store} {s : Nat} (h : Strm S s) : s < S.length := by
  obtain ⟨q, ns, a, k, m, e1, _⟩ := h
  exact lt_at e1
section
variable {n s : Nat} {S : Store} {Q : PV → Store → Prop} {E : Exn → Store → Prop}
theorem lfar_spec (hs : Strm S s) (hP : ∀ (k : Nat) S', k ≤ 1000000000 → Fr [s] S S' → Strm S' s → Q (.int (k : Nat)) S') : Wq (callG tab (n + 2) i__law_far [.ref s] S) Q E := by
  refine Wq_callG tab__law_far rfl ?_
  simp only [f__law_far, b__law_far, startEnv, List.map_cons, List.map_nil, List.length_cons, List.length_nil, List.replicate, List.cons_append, List.nil_append, Nat.reduceAdd, Nat.reduceSub]
  walk_at "e"
  refine d_fr hs (by decide) (by decide) fun k S1 hk f1 s1 => ?_
  walk_at "e"
  refine Br_d (fun h => ?_) (fun h => ?_)
  · walk_at "e"
    refine d_fr s1 (by decide) (by decide) fun k S2 hk f2 s2 => ?_
    walk_at "e"
    exact hP k S2 (by omega) (f1.trans f2) s2
  · walk_at "e"
    refine d_fr s1 (by decide) (by decide) fun k S2 hk f2 s2 => ?_
    walk_at "e"
    refine ⟨by decide, ?_⟩
    have hsl := Strm_lt s2
    have s3 := s2.grow (Grow.push _ [MO.lst [PV.int 10, PV.int 12, PV.int 1000000000, PV.int (k : Nat)]])
    have f3 : Fr [s] S2 (S2 ++ [MO.lst [PV.int 10, PV.int 12, PV.int 1000000000, PV.int (k : Nat)]]) := Fr.grow (Grow.push _ _)
    refine d_fr s3 (by decide) (by decide) fun j S4 hj f4 s4 => ?_
    rw [at_new f4 (by simp; omega)]
    walk_at "e"
    have fin : ∀ z : Nat, z ≤ 1000000000 → Q (.int (z : Nat)) S4 := fun z hz => hP z S4 hz (((f1.trans f2).trans f3).trans f4) s4
    have hj4 : j = 0 ∨ j = 1 ∨ j = 2 ∨ j = 3 := by omega
    rcases hj4 with rfl | rfl | rfl | rfl
    · exact ⟨_, rfl, fin 10 (by omega)⟩
    · exact ⟨_, rfl, fin 12 (by omega)⟩
    · exact ⟨_, rfl, fin 1000000000 (by omega)⟩
    · exact ⟨_, rfl, fin k (by omega)⟩
theorem str_mem {x : Sy} {i : Nat} {Q : PV → Prop} (h : i < x.length) (hP : ∀ c ∈ x, Q (.str [c])) : Gq ((atI x (i : Int)).map fun c => .str [c]) Q := by
  have e : atI x (i : Int) = some x[i] := by
    rw [at_nat (by omega) (by omega)]
    simp [h]
  rw [e]
  exact ⟨_, rfl, hP _ (List.getElem_mem _)⟩
theorem latom_spec (hs : Strm S s) (hP : ∀ (a : Sy) S', atomB a = true → Fr [s] S S' → Strm S' s → Q (.str a) S') : Wq (callG tab (n + 2) i__law_atom [.ref s] S) Q E := by
  refine Wq_callG tab__law_atom rfl ?_
  simp only [f__law_atom, b__law_atom, startEnv, List.map_cons, List.map_nil, List.length_cons, List.length_nil, List.replicate, List.cons_append, List.nil_append, Nat.reduceAdd, Nat.reduceSub]
  walk_at "e"
  refine d_fr hs (by decide) (by decide) fun k S1 hk f1 s1 => ?_
  walk_at "e"
  refine Br_d (fun h => ?_) (fun h => ?_)
  · walk_at "e"
    refine ⟨by decide, ?_⟩
    have hsl := Strm_lt s1
    have s3 := s1.grow (Grow.push _ [MO.lst [PV.str z_a, PV.str z_b, PV.str z_nil, PV.str z_x1, PV.str z_abcdefghijkl]])
    have f3 : Fr [s] S1 (S1 ++ [MO.lst [PV.str z_a, PV.str z_b, PV.str z_nil, PV.str z_x1, PV.str z_abcdefghijkl]]) := Fr.grow (Grow.push _ _)
    refine d_fr s3 (by decide) (by decide) fun j S4 hj f4 s4 => ?_
    rw [at_new f4 (by simp; omega)]
    walk_at "e"
    refine Gq_mem (by simp; omega) fun z hz => ?_
    simp only [List.mem_cons, List.not_mem_nil, or_false] at hz
    rcases hz with rfl | rfl | rfl | rfl | rfl <;> exact hP _ S4 (by decide) ((f1.trans f3).trans f4) s4
  · walk_at "e"
    refine d_fr s1 (by decide) (by decide) fun j S2 hj f2 s2 => ?_
    rw [Iq_S (by decide)]
    refine str_mem (by show j < 3; omega) fun c hc => ?_
    have hc' : atomB [c] = true := by
      have : (z_abz).all (fun c => atomB [c]) = true := by decide
      rw [List.all_eq_true] at this
      exact this c hc
    walk_at "e"
    refine d_fr s2 (by decide) (by decide) fun m S3 hm f3 s3 => ?_
    walk_at "e"
    refine ⟨by simp only [W62]; omega, ?_⟩
    rw [show ((m : Nat) : Int).toNat = m by omega]
    refine Lp_I m (fun t ρ S' => ∃ (a : Sy) (e : Option PV), ρ = [some (.ref s), some (.str a), e] ∧ a.length = t + 1 ∧ atomB a = true ∧ Fr [s] S S' ∧ Strm S' s) ⟨[c], _, rfl, rfl, hc', (f1.trans f2).trans f3, s3⟩ (by show _ < 1000000; omega) ?_
    rintro t ρ S5 ⟨a, e, rfl, hal, hac, f5, s5⟩ ht
    refine ⟨fun hlt => ⟨.int (t : Nat), by simp [ItV.next, hlt], ?_⟩, fun he => ⟨by simp [ItV.next, he], ?_⟩⟩
    · walk_at "e"
      refine d_fr s5 (by decide) (by decide) fun j2 S6 hj2 f6 s6 => ?_
      rw [Iq_S (by decide)]
      refine str_mem (by show j2 < 6; omega) fun c2 hc2 => ?_
      rw [o_adds]
      refine ⟨by simp only [List.length_cons, List.length_nil, nsz]; omega, ?_⟩
      walk_at "e"
      refine ⟨a ++ [c2], _, rfl, by simp; omega, ?_, f5.trans f6, s6⟩
      refine atomB_app hac (by omega) ?_
      have : (z_abz019).all (fun c => (decide (97 ≤ c) && decide (c ≤ 122)) || (decide (48 ≤ c) && decide (c ≤ 57))) = true := by decide
      rw [List.all_eq_true] at this
      simpa using this c2 hc2
    · walk_at "e"
      exact hP a S5 hac f5 s5
theorem lnode_specG {m : Nat} (hs : Strm S s) (h0 : 0 < m) (hm : m ≤ 100) (hP : ∀ (x : Nd) S', x.good = true → x.parts.length ≤ 6 → (∀ j ∈ x.parts, j < m) → pl 5 x.pv = true → Fr [s] S S' → Strm S' s → Q x.pv S') : Wq (callG tab (n + 3) i__law_node [.ref s, .int (m : Nat)] S) Q E := by
  refine Wq_callG tab__law_node rfl ?_
  simp only [f__law_node, b__law_node, startEnv, List.map_cons, List.map_nil, List.length_cons, List.length_nil, List.replicate, List.cons_append, List.nil_append, Nat.reduceAdd, Nat.reduceSub]
  walk_at "e"
  refine d_fr hs (by decide) (by decide) fun k S1 hk f1 s1 => ?_
  walk_at "e"
  refine Br_e (fun _ => ?_) (fun _ => ?_)
  · walk_at "e"
    refine lfar_spec (n := n) s1 fun k S2 hk f2 s2 => ?_
    walk_at "e"
    exact ⟨by decide, hP (.var k) S2 (by simp [Nd.good]; omega) (by simp [Nd.parts]) (by simp [Nd.parts]) rfl (f1.trans f2) s2⟩
  walk_at "e"
  refine Br_e (fun _ => ?_) (fun _ => ?_)
  · walk_at "e"
    refine ⟨by decide, ?_⟩
    have hsl := Strm_lt s1
    have s3 := s1.grow (Grow.push _ [MO.lst [PV.int 0, PV.int 1, PV.int (-1), PV.int 7, PV.int (-12), PV.int 1000000000, PV.int (-1000000000)]])
    have f3 : Fr [s] S1 (S1 ++ [MO.lst [PV.int 0, PV.int 1, PV.int (-1), PV.int 7, PV.int (-12), PV.int 1000000000, PV.int (-1000000000)]]) := Fr.grow (Grow.push _ _)
    refine d_fr s3 (by decide) (by decide) fun j S4 hj f4 s4 => ?_
    rw [at_new f4 (by simp; omega)]
    walk_at "e"
    refine Gq_mem (by simp; omega) fun z hz => ?_
    have hzi : ∃ i : Int, z = .int i ∧ (Nd.int i).good = true := by
      simp only [List.mem_cons, List.not_mem_nil, or_false] at hz
      rcases hz with rfl | rfl | rfl | rfl | rfl | rfl | rfl <;> exact ⟨_, rfl, by decide⟩
    obtain ⟨i, rfl, hgi⟩ := hzi
    exact ⟨by decide, hP (.int i) S4 hgi (by simp [Nd.parts]) (by simp [Nd.parts]) rfl ((f1.trans f3).trans f4) s4⟩
  walk_at "e"
  refine Br_e (fun _ => ?_) (fun _ => ?_)
  · walk_at "e"
    refine latom_spec (n := n) s1 fun a S2 ha f2 s2 => ?_
    walk_at "e"
    exact ⟨by decide, hP (.atom a) S2 ha (by simp [Nd.parts]) (by simp [Nd.parts]) (by simp only [Nd.pv, pl, pls, Bool.and_true, Bool.true_and, Bool.and_eq_true]; exact ⟨by decide, atomB_cp ha⟩) (f1.trans f2) s2⟩
  walk_at "e"
  refine Br_e (fun _ => ?_) (fun _ => ?_)
  · walk_at "e"
    refine latom_spec (n := n) s1 fun a S2 ha f2 s2 => ?_
    walk_at "e"
    refine lfar_spec (n := n) s2 fun k S3 hk f3 s3 => ?_
    walk_at "e"
    exact ⟨by decide, hP (.name a k) S3 (by simp [Nd.good, ha]; omega) (by simp [Nd.parts]) (by simp [Nd.parts]) (by simp only [Nd.pv, pl, pls, Bool.and_true, Bool.true_and, Bool.and_eq_true]; exact ⟨by decide, atomB_cp ha⟩) ((f1.trans f2).trans f3) s3⟩
  walk_at "e"
  refine ⟨by decide, ?_⟩
  have hsl := Strm_lt s1
  have s3 := s1.grow (Grow.push _ [MO.lst [PV.int 1, PV.int 2, PV.int 2, PV.int 3, PV.int 6]])
  have f3 : Fr [s] S1 (S1 ++ [MO.lst [PV.int 1, PV.int 2, PV.int 2, PV.int 3, PV.int 6]]) := Fr.grow (Grow.push _ _)
  refine d_fr s3 (by decide) (by decide) fun j S4 hj f4 s4 => ?_
  rw [at_new f4 (by simp; omega)]
  have f04 := (f1.trans f3).trans f4
  walk_at "e"
  refine Gq_mem (by simp; omega) fun c hc => ?_
  obtain ⟨c, rfl, hc2, hc1⟩ : ∃ z : Nat, c = PV.int z ∧ z ≤ 6 ∧ 1 ≤ z := by
    simp only [List.mem_cons, List.not_mem_nil, or_false] at hc
    rcases hc with rfl | rfl | rfl | rfl | rfl
    · exact ⟨1, rfl, by decide, by decide⟩
    · exact ⟨2, rfl, by decide, by decide⟩
    · exact ⟨2, rfl, by decide, by decide⟩
    · exact ⟨3, rfl, by decide, by decide⟩
    · exact ⟨6, rfl, by decide, by decide⟩
  walk_at "e"
  refine ⟨by simp only [W62]; omega, ?_⟩
  rw [show ((c : Nat) : Int).toNat = c by omega]
  refine lc_nat c m s4 (by simp [wipe]) (by show _ < 1000000; omega) (by simp only [nsz]; omega) (fun j S5 f5 s5 => ?_) fun ps S5 hpl hps f5 s5 => ?_
  · walk_at "e"
    exact d_fr s5 (by omega) (by omega) fun r S6 hr f s6 => ⟨r, by omega, rfl, f, s6⟩
  walk_at "e"
  refine ⟨by decide, ?_⟩
  have hsl5 := Strm_lt s5
  have hg6 : Grow S5 (S5 ++ [MO.lst (ps.map pvI), MO.lst [PV.str z_f, PV.str z_f, PV.str z_fa, PV.str z_cons, PV.str z_cell]]) := Grow.push _ _
  have a6 : (S5 ++ [MO.lst (ps.map pvI), MO.lst [PV.str z_f, PV.str z_f, PV.str z_fa, PV.str z_cons, PV.str z_cell]])[S5.length]? = some (.lst (ps.map pvI)) := by rw [app_0]; rfl
  have b6 : (S5 ++ [MO.lst (ps.map pvI), MO.lst [PV.str z_f, PV.str z_f, PV.str z_fa, PV.str z_cons, PV.str z_cell]])[S5.length + 1]? = some (.lst [PV.str z_f, PV.str z_f, PV.str z_fa, PV.str z_cons, PV.str z_cell]) := by rw [app_k]; rfl
  refine d_fr (s5.grow hg6) (by decide) (by decide) fun k2 S7 hk2 f7 s7 => ?_
  have a7 := f7.at_ _ _ (by simp; omega) a6
  have b7 := f7.at_ _ _ (by simp; omega) b6
  simp only [b7]
  walk_at "e"
  refine Gq_mem (by simp; omega) fun z hz => ?_
  have hzs : ∃ a : Sy, z = .str a ∧ atomB a = true := by
    simp only [List.mem_cons, List.not_mem_nil, or_false] at hz
    rcases hz with rfl | rfl | rfl | rfl | rfl <;> exact ⟨_, rfl, by decide⟩
  obtain ⟨a, rfl, ha⟩ := hzs
  walk_at "e"
  simp only [a7]
  refine ⟨by decide, hP (.tup a ps) S7 ?_ ?_ ?_ ?_ (((f04.trans f5).trans (Fr.grow hg6)).trans f7) s7⟩
  · simp only [Nd.good, ha, Bool.true_and, Bool.and_eq_true, decide_eq_true_eq]
    omega
  · simp only [Nd.parts]
    omega
  · simpa [Nd.parts] using hps
  · simp only [Nd.pv, pl, pls, Bool.and_true, Bool.true_and, Bool.and_eq_true]
    exact ⟨by decide, atomB_cp ha, pls_ints⟩
theorem lnode_spec {m : Nat} (hs : Strm S s) (h0 : 0 < m) (hm : m ≤ 100) (hP : ∀ (x : Nd) S', x.parts.length ≤ 6 → (∀ j ∈ x.parts, j < m) → pl 5 x.pv = true → Fr [s] S S' → Strm S' s → Q x.pv S') : Wq (callG tab (n + 3) i__law_node [.ref s, .int (m : Nat)] S) Q E :=
  lnode_specG hs h0 hm fun x S' _ => hP x S'
theorem lgraph_specG {most : Nat} (hs : Strm S s) (h0 : 0 < most) (hm : most < 100) (hP : ∀ g S', (∀ x ∈ g, x.good = true) → okG g → gok g → 0 < g.length → g.length ≤ most → Fr [s] S S' → Strm S' s → Q (gpv g) S') : Wq (callG tab (n + 4) i__law_graph [.ref s, .int (most : Nat)] S) Q E := by
  refine Wq_callG tab__law_graph rfl ?_
  simp only [f__law_graph, b__law_graph, startEnv, List.map_cons, List.map_nil, List.length_cons, List.length_nil, List.replicate, List.cons_append, List.nil_append, Nat.reduceAdd, Nat.reduceSub]
  walk_at "e"
  refine d_fr hs (by omega) (by omega) fun k S1 hk f1 s1 => ?_
  walk_at "e"
  have hmi : (1 : Int) + (k : Nat) = (k + 1 : Nat) := by omega
  generalize (1 : Int) + (k : Nat) = mi at hmi ⊢
  subst hmi
  refine ⟨by simp only [W62]; omega, ?_⟩
  rw [show (((k + 1 : Nat) : Int)).toNat = k + 1 by omega]
  refine Lcw_I (k + 1) (fun i acc S' => ∃ g : List Nd, acc = g.map Nd.pv ∧ g.length = i ∧ (∀ x ∈ g, x.parts.length ≤ 6 ∧ (∀ j ∈ x.parts, j < k + 1) ∧ pl 5 x.pv = true ∧ x.good = true) ∧ Fr [s] S S' ∧ Strm S' s) ⟨[], rfl, rfl, by simp, f1, s1⟩ (by show _ < 1000000; omega) (by simp only [nsz]; omega) ?_
  rintro i acc S2 ⟨g, rfl, hgl, hg, f2, s2⟩ hi ha
  refine ⟨fun hlt => ⟨.int (i : Nat), by simp [ItV.next, hlt], ?_⟩, fun he => ⟨by simp [ItV.next, he], ?_⟩⟩
  · walk_at "e"
    refine lnode_specG (n := n) (m := k + 1) s2 (by omega) (by omega) fun x S3 h0 h1 h2 h3 f3 s3 => ?_
    refine ⟨g ++ [x], by simp, by simp [hgl], fun y hy => ?_, f2.trans f3, s3⟩
    rcases List.mem_append.mp hy with hy | hy
    · exact hg y hy
    · rw [List.mem_singleton.mp hy]
      exact ⟨h1, h2, h3, h0⟩
  · walk_at "e"
    have hl : g.length = k + 1 := by omega
    exact hP g _ (fun x hx => (hg x hx).2.2.2) (fun x hx => ⟨by have := (hg x hx).1; omega, fun j hj => by rw [hl]; exact (hg x hx).2.1 j hj⟩) (fun x hx => (hg x hx).2.2.1) (by omega) (by omega) f2.push (s2.grow (Grow.push _ _))
theorem lgraph_spec {most : Nat} (hs : Strm S s) (h0 : 0 < most) (hm : most < 100) (hP : ∀ g S', okG g → gok g → 0 < g.length → g.length ≤ most → Fr [s] S S' → Strm S' s → Q (gpv g) S') : Wq (callG tab (n + 4) i__law_graph [.ref s, .int (most : Nat)] S) Q E :=
  lgraph_specG hs h0 hm fun g S' _ => hP g S'
end
end LD
set_option maxRecDepth 100000
namespace LD
open L3 PySem PySem.Spec
theorem pyEq_rr {S : Store} {u v : Nat} {xs ys : List PV} (hu : S[u]? = some (.lst xs)) (hv : S[v]? = some (.lst ys)) (h1 : pls 50 xs = true) (h2 : pls 50 ys = true) : pyEq S (.ref u) (.ref v) = some (decide (xs = ys)) := by
  obtain ⟨D, a1, a2⟩ := pls_D h1
  obtain ⟨E, b1, b2⟩ := pls_D h2
  have hb : PV.beqs xs ys = decide (xs = ys) := by
    have := PV.beq_iff (a := .tup xs) (b := .tup ys)
    rw [Bool.eq_iff_iff, decide_eq_true_iff]
    simpa [PV.beq] using this
  unfold pyEq
  simp only [toD, hu, hv, a1, b1, Option.map_some]
  rw [if_pos ⟨by simp only [PyData.depth]; omega, by simp only [PyData.depth]; omega⟩, ← hb]
  simp only [PyData.eqv]
  rw [pls_eqv h1 h2 a1 b1]
theorem Cq_eqr {S : Store} {u v : Nat} {xs ys : List PV} {Q : Bool → Prop} (hu : S[u]? = some (.lst xs)) (hv : S[v]? = some (.lst ys)) (h1 : pls 50 xs = true) (h2 : pls 50 ys = true) : Cq .eq (.ref u) (.ref v) S Q = Q (decide (xs = ys)) := Cq_some (pyEq_rr hu hv h1 h2)
theorem Cq_ner {S : Store} {u v : Nat} {xs ys : List PV} {Q : Bool → Prop} (hu : S[u]? = some (.lst xs)) (hv : S[v]? = some (.lst ys)) (h1 : pls 50 xs = true) (h2 : pls 50 ys = true) : Cq .ne (.ref u) (.ref v) S Q = Q (!decide (xs = ys)) := Cq_some (by simp [cop, pyEq_rr hu hv h1 h2])
theorem nx_rngN {m i : Nat} {S : Store} : (ItV.rng 0 m).next i S = some ((List.range m).map pvI)[i]? := by
  by_cases h : i < m
  · simp [ItV.next, h, pvI]
  · simp [ItV.next, h]
theorem d_stream {n : Nat} {ns : List Int} {Q : PV → Store → Prop} {E : Exn → Store → Prop} (h63 : ns.length ≤ 63) (hP : ∀ S, Strm S 1 → S.length = 2 → Q (.ref 1) S) : Wq (callG tab (n + 1) i__law_stream [.rol (ns.map .int)] []) Q E := by
  rw [← cG]
  exact stream_spec rfl h63 (by show 1000 ≤ 1000000; omega) fun m hS => hP _ hS rfl
end LD
set_option maxRecDepth 100000
namespace LD
open L3
local macro_rules | `(tactic| walk_at "e") => `(tactic| try simp -dsimp only [↓y_cons, ↓y_if, ↓y_asub, ↓W_rt, ↓W_ex, ↓W_fr, ↓W_lc, ↓W_pass, ↓W_brk, ↓W_cnt, ↓W_retn, ↓W_nil, ↓nxt_nx, ↓nxt_rt, ↓nxt_bk, ↓nxt_ct, ↓retK_rt, ↓retK_nx, ↓e_con, ↓e_glo, ↓e_tup, ↓e_lst, ↓e_bin, ↓e_negi, ↓e_nt, ↓T_idx, ↓T_cal, ↓T_bf, ↓T_bin, ↓T_tup, ↓T_fld, ↓T_mth, ↓T_ife, ↓T_var, ↓T_glo, ↓T_con, ↓T_cmp, ↓T_chn, ↓T_isi, ↓T_nt, ↓T_and, ↓T_or, ↓e_and, ↓e_or, ↓e_ife, ↓e_cmp, ↓e_chn, ↓e_idx, ↓e_slc, ↓e_fld, ↓e_cal, ↓e_mth, ↓e_dnew, ↓e_lens, ↓m_fn, ↓Iq_R, ↓e_bf1, ↓e_bf, ↓e_isi, ↓es_nil, ↓es_cons, ↓eo_no, ↓i_seq, ↓q_tup, ↓q_rol, ↓q_str, ↓o_addi, ↓o_subi, ↓o_p9, ↓o_slct, ↓u_lenT, ↓u_lenC, ↓u_int, ↓u_abs, ↓u_max, ↓u_min, ↓u_tupT, ↓u_lstT, ↓u_lstC, ↓Br_t, ↓Br_f, ↓Br_n, ↓Tq_bl, ↓Tq_int, ↓Tq_tup, ↓Tq_rol, ↓Tq_non, ↓Gq_s, ↓Yq_non, ↓Yq_bl, ↓Yq_int, ↓Yq_str, ↓Yq_tup, ↓Yq_rol, ↓Cq_isnn, ↓Cq_isN, ↓Iq_T, ↓Iq_C, ↓Cq_eqi, ↓Cq_nei, ↓Cq_eqs, ↓Cq_nes, ↓Cq_eqb, ↓Cq_neb, ↓Cq_lti, ↓Cq_lei, ↓Cq_gti, ↓Cq_gei, ↓Cq_isb, ↓Cq_isnb, ↓Cq_lts, ↓Cq_inn1, ↓Cq_nin1, ↓v_0, ↓n_0, ↓g_0, ↓t_0, ↓v_1, ↓n_1, ↓g_1, ↓t_1, ↓v_2, ↓n_2, ↓g_2, ↓t_2, ↓v_3, ↓n_3, ↓g_3, ↓t_3, ↓v_4, ↓n_4, ↓g_4, ↓t_4, ↓v_5, ↓n_5, ↓g_5, ↓t_5, ↓v_6, ↓n_6, ↓g_6, ↓t_6, ↓v_7, ↓n_7, ↓g_7, ↓t_7, ↓v_8, ↓n_8, ↓g_8, ↓t_8, ↓v_9, ↓n_9, ↓g_9, ↓t_9, ↓v_10, ↓n_10, ↓g_10, ↓t_10, ↓v_11, ↓n_11, ↓g_11, ↓t_11, ↓v_12, ↓n_12, ↓g_12, ↓t_12, ↓v_13, ↓n_13, ↓g_13, ↓t_13, Iq_R, Br_t, Br_f, Br_n, Tq_bl, Tq_int, Tq_tup, Tq_rol, Tq_non, Gq_s, Yq_non, Yq_bl, Yq_int, Yq_str, Yq_tup, Yq_rol, Cq_isnn, Cq_isN, Iq_T, Iq_C, Cq_eqi, Cq_nei, Cq_eqs, Cq_nes, Cq_eqb, Cq_neb, Cq_lti, Cq_lei, Cq_gti, Cq_gei, Cq_isb, Cq_isnb, Cq_lts, Cq_inn1, Cq_nin1, e_neg, eo_ex, i_rng, i_rng2, y_aug, at_0, at_1, at_2, at_3, cxF_T, cxF_call, Bool.not_true, Bool.not_false, Bool.false_eq_true, if_true, if_false, tyB, PV.int.injEq, exists_eq_left, exists_eq_left', List.isEmpty_nil, List.isEmpty_cons, List.length_cons, List.length_nil, List.map_cons, List.map_nil, Option.map_some, startEnv, List.replicate, List.cons_append, List.nil_append, PV.int.injEq, ↓cG, ↓e_ddis, ↓y_afld, ↓y_atup, ↓t_tup, ↓ts_nil, ↓ts_cons, ↓e_dget1, ↓e_dget2, ↓e_dset, ↓e_lzip, ↓e_rev, ↓i_enum, ↓y_augs, ↓y_try, ↓y_rai, ↓h_nil, ↓h_ret, ↓h_isi, ↓e_ddist, ↓e_kdi, ↓e_lrng, ↓i_zip, ↓i_rvd, ↓y_del, ↓e_negU, ↓y_augf, ↓v_14, ↓n_14, ↓g_14, ↓t_14, ↓v_15, ↓n_15, ↓g_15, ↓t_15, ↓v_16, ↓n_16, ↓g_16, ↓t_16, ↓v_17, ↓n_17, ↓g_17, ↓t_17, ↓v_18, ↓n_18, ↓g_18, ↓t_18, ↓v_19, ↓n_19, ↓g_19, ↓t_19, ↓v_20, ↓n_20, ↓g_20, ↓t_20, ↓v_21, ↓n_21, ↓g_21, ↓t_21, ↓v_22, ↓n_22, ↓g_22, ↓t_22, ↓v_23, ↓n_23, ↓g_23, ↓t_23, u_intB, o_muli, o_modi, o_fdivi, cG, k_ix, ixO_L, ixO_D, ixO_F, k_sx, k_sf, k_fld, k_tr, k_ty, k_in, k_nin, k_int_i, k_int_s, k_int_b, k_int_n, k_nint, k_inr, k_ninr, k_len, k_tuple, k_list, k_sorted, k_min, k_q, k_lens, k_add, k_mul, k_slc, k_mth, mqO_L, lm_app, lm_ext, lm_pop, k_app, k_extT, k_extL, k_pop, k_isd, k_dget, k_dset, k_lzip, k_revT, k_revL, k_enT, k_enL, o_subb, k_ltT, k_gtT, k_ltL, k_lrng, k_zip, Uq_i, t_tupL, lm_idx, k_idx, k_del, k_mthS, sm_join, sm_sw, sm_low, k_join, k_sw, u_strS, k_pop0, nJ_nx, nJ_rt, nJ_bk, nJ_ct, inL_t, inL_i, inL_s, inL_b, inL_n, wipe_1, wipe_nil, app_0, app_k, sapp_0, sapp_k, List.getElem?_cons_zero, List.getElem?_cons_succ, List.set_cons_zero, List.set_cons_succ, List.append_assoc, List.length_append, Nat.reduceAdd, glob_MOST_NODES, g_MOST_NODES])
local macro_rules | `(tactic| walk_at "s") => `(tactic| try simp -dsimp only [↓y_cons, ↓y_if, ↓y_asub, ↓W_rt, ↓W_ex, ↓W_fr, ↓W_lc, ↓W_pass, ↓W_brk, ↓W_cnt, ↓W_retn, ↓W_nil, ↓nxt_nx, ↓nxt_rt, ↓nxt_bk, ↓nxt_ct, ↓retK_rt, ↓retK_nx, ↓e_con, ↓e_glo, ↓e_tup, ↓e_lst, ↓e_bin, ↓e_negi, ↓e_nt, ↓T_idx, ↓T_cal, ↓T_bf, ↓T_bin, ↓T_tup, ↓T_fld, ↓T_mth, ↓T_ife, ↓T_var, ↓T_glo, ↓T_con, ↓T_cmp, ↓T_chn, ↓T_isi, ↓T_nt, ↓T_and, ↓T_or, ↓e_and, ↓e_or, ↓e_ife, ↓e_cmp, ↓e_chn, ↓e_idx, ↓e_slc, ↓e_fld, ↓e_cal, ↓e_mth, ↓e_dnew, ↓e_lens, ↓m_fn, ↓Iq_R, ↓e_bf1, ↓e_bf, ↓e_isi, ↓es_nil, ↓es_cons, ↓eo_no, ↓i_seq, ↓q_tup, ↓q_rol, ↓q_str, ↓o_addi, ↓o_subi, ↓o_p9, ↓o_slct, ↓u_lenT, ↓u_lenC, ↓u_int, ↓u_abs, ↓u_max, ↓u_min, ↓u_tupT, ↓u_lstT, ↓u_lstC, ↓Br_t, ↓Br_f, ↓Br_n, ↓Tq_bl, ↓Tq_int, ↓Tq_tup, ↓Tq_rol, ↓Tq_non, ↓Gq_s, ↓Yq_non, ↓Yq_bl, ↓Yq_int, ↓Yq_str, ↓Yq_tup, ↓Yq_rol, ↓Cq_isnn, ↓Cq_isN, ↓Iq_T, ↓Iq_C, ↓Cq_eqi, ↓Cq_nei, ↓Cq_eqs, ↓Cq_nes, ↓Cq_eqb, ↓Cq_neb, ↓Cq_lti, ↓Cq_lei, ↓Cq_gti, ↓Cq_gei, ↓Cq_isb, ↓Cq_isnb, ↓Cq_lts, ↓Cq_inn1, ↓Cq_nin1, ↓v_0, ↓n_0, ↓g_0, ↓t_0, ↓v_1, ↓n_1, ↓g_1, ↓t_1, ↓v_2, ↓n_2, ↓g_2, ↓t_2, ↓v_3, ↓n_3, ↓g_3, ↓t_3, ↓v_4, ↓n_4, ↓g_4, ↓t_4, ↓v_5, ↓n_5, ↓g_5, ↓t_5, ↓v_6, ↓n_6, ↓g_6, ↓t_6, ↓v_7, ↓n_7, ↓g_7, ↓t_7, ↓v_8, ↓n_8, ↓g_8, ↓t_8, ↓v_9, ↓n_9, ↓g_9, ↓t_9, ↓v_10, ↓n_10, ↓g_10, ↓t_10, ↓v_11, ↓n_11, ↓g_11, ↓t_11, ↓v_12, ↓n_12, ↓g_12, ↓t_12, ↓v_13, ↓n_13, ↓g_13, ↓t_13, Iq_R, Br_t, Br_f, Br_n, Tq_bl, Tq_int, Tq_tup, Tq_rol, Tq_non, Gq_s, Yq_non, Yq_bl, Yq_int, Yq_str, Yq_tup, Yq_rol, Cq_isnn, Cq_isN, Iq_T, Iq_C, Cq_eqi, Cq_nei, Cq_eqs, Cq_nes, Cq_eqb, Cq_neb, Cq_lti, Cq_lei, Cq_gti, Cq_gei, Cq_isb, Cq_isnb, Cq_lts, Cq_inn1, Cq_nin1, e_neg, eo_ex, i_rng, i_rng2, y_aug, at_0, at_1, at_2, at_3, cxF_T, cxF_call, Bool.not_true, Bool.not_false, Bool.false_eq_true, if_true, if_false, tyB, PV.int.injEq, exists_eq_left, exists_eq_left', List.isEmpty_nil, List.isEmpty_cons, List.length_cons, List.length_nil, List.map_cons, List.map_nil, Option.map_some, startEnv, List.replicate, List.cons_append, List.nil_append, PV.int.injEq, ↓cG, ↓e_ddis, ↓y_afld, ↓y_atup, ↓t_tup, ↓ts_nil, ↓ts_cons, ↓e_dget1, ↓e_dget2, ↓e_dset, ↓e_lzip, ↓e_rev, ↓i_enum, ↓y_augs, ↓y_try, ↓y_rai, ↓h_nil, ↓h_ret, ↓h_isi, ↓e_ddist, ↓e_kdi, ↓e_lrng, ↓i_zip, ↓i_rvd, ↓y_del, ↓e_negU, ↓y_augf, ↓v_14, ↓n_14, ↓g_14, ↓t_14, ↓v_15, ↓n_15, ↓g_15, ↓t_15, ↓v_16, ↓n_16, ↓g_16, ↓t_16, ↓v_17, ↓n_17, ↓g_17, ↓t_17, ↓v_18, ↓n_18, ↓g_18, ↓t_18, ↓v_19, ↓n_19, ↓g_19, ↓t_19, ↓v_20, ↓n_20, ↓g_20, ↓t_20, ↓v_21, ↓n_21, ↓g_21, ↓t_21, ↓v_22, ↓n_22, ↓g_22, ↓t_22, ↓v_23, ↓n_23, ↓g_23, ↓t_23, u_intB, o_muli, o_modi, o_fdivi, cG, k_ix, ixO_L, ixO_D, ixO_F, k_sx, k_sf, k_fld, k_tr, k_ty, k_in, k_nin, k_int_i, k_int_s, k_int_b, k_int_n, k_nint, k_inr, k_ninr, k_len, k_tuple, k_list, k_sorted, k_min, k_q, k_lens, k_add, k_mul, k_slc, k_mth, mqO_L, lm_app, lm_ext, lm_pop, k_app, k_extT, k_extL, k_pop, k_isd, k_dget, k_dset, k_lzip, k_revT, k_revL, k_enT, k_enL, o_subb, k_ltT, k_gtT, k_ltL, k_lrng, k_zip, Uq_i, t_tupL, lm_idx, k_idx, k_del, k_mthS, sm_join, sm_sw, sm_low, k_join, k_sw, u_strS, k_pop0, nJ_nx, nJ_rt, nJ_bk, nJ_ct, inL_t, inL_i, inL_s, inL_b, inL_n, wipe_1, wipe_nil, app_0, app_k, sapp_0, sapp_k, List.getElem?_cons_zero, List.getElem?_cons_succ, List.set_cons_zero, List.set_cons_succ, List.append_assoc, List.length_append, Nat.reduceAdd, glob_MOST_NODES, g_MOST_NODES, *])
local macro_rules | `(tactic| walk_at "b") => `(tactic| first | (refine Br_d (fun h => ?_) (fun h => ?_) <;> walk_at "e") | (refine Br_e (fun h => ?_) (fun h => ?_) <;> walk_at "e") | (refine Br_i (fun h => ?_) (fun h => ?_) <;> walk_at "e"))
local macro_rules | `(tactic| walk_at "k") => `(tactic| first | (refine Br_e (fun h => absurd h (by decide)) (fun _ => ?_)) | (refine Br_d (fun h => absurd h (by decide)) (fun _ => ?_)) | (refine Br_e (fun _ => ?_) (fun h => absurd rfl h)) | (refine Br_d (fun _ => ?_) (fun h => absurd (by decide) h)) | (refine Br_e (fun _ => ?_) (fun h => absurd (by decide) h)) | (refine Br_d (fun h => absurd h (by omega)) (fun _ => ?_)) | (refine Br_d (fun _ => ?_) (fun h => absurd (by omega) h)) | (refine Br_e (fun h => absurd h (by omega)) (fun _ => ?_)) | (refine Br_e (fun _ => ?_) (fun h => absurd (by omega) h)))
section
variable {n s : Nat} {S : Store} {Q : PV → Store → Prop} {E : Exn → Store → Prop} {g : List Nd}
theorem LG_deep {d : Nat} (hg : okG g) (g0 : 0 < g.length) : Deep (LG g d) (lawK (LG g d)) fun u _ a => a < (LG g d).length ∧ d + 1 ≤ u + a / g.length where
  z := fun fs a h => by
    have h2 := h.1
    rw [LG_len] at h2
    have : a / g.length < d + 1 := (Nat.div_lt_iff_lt_mul g0).mpr h2
    have := h.2
    omega
  s := fun u fs a h _ ha w fs' _ j hj => by
    have := LG_lev hg g0 ha hj
    have hp := (parts_lt (LG_ok hg (d := d)) ha).2 j hj
    exact ⟨hp, by have := h.2; omega⟩
def lgK (g : List Nd) (d t : Nat) : List Nd := (List.range t).flatMap fun l => g.map (lcN g.length d l)
theorem lcut_spec (hg : okG g) (g0 : 0 < g.length) {d : Nat} (hl : (d + 1) * g.length ≤ 950) (hP : ∀ S', Grow S S' → Q (gpv (leastL (cutG g d))) S') :
    Wq (callG tab (n + d + 4) i__law_cut [gpv g, .int (d : Nat)] S) Q E := by
  have hgl : g.length ≤ 950 := Nat.le_trans (by rw [Nat.add_mul]; omega) hl
  have hdl : d ≤ 950 := Nat.le_trans (Nat.le_trans (Nat.le_succ d) (Nat.le_mul_of_pos_right _ g0)) hl
  refine Wq_callG tab__law_cut rfl ?_
  simp only [f__law_cut, b__law_cut, startEnv, List.map_cons, List.map_nil, List.length_cons, List.length_nil, List.replicate, List.cons_append, List.nil_append, Nat.reduceAdd, Nat.reduceSub]
  walk_at "e"
  refine ⟨by decide, ?_⟩
  refine ⟨by simp only [W62]; omega, ?_⟩
  rw [show (((d : Nat) : Int) + 1).toNat = d + 1 by omega]
  simp only [gpv, List.length_map]
  refine Lp_X ((List.range (d + 1)).map pvI) (fun t ρ S' => ∃ e4 e5, ρ = [some (PV.tup (g.map Nd.pv)), some (.int (d : Nat)), some (.ref S.length), some (.int (g.length : Nat)), e4, e5, none] ∧ Grow S S' ∧ S'[S.length]? = some (.lst ((lgK g d t).map Nd.pv)))
    ⟨_, _, rfl, Grow.push _ _, by rw [app_0]; rfl⟩ (by show _ < 1000000; simp; omega) (fun t ρ S' hI => nx_rngN) ?_ ?_
  · rintro t ht ρ S1 ⟨e4, e5, rfl, g1, r1⟩
    rw [List.getElem_map, List.getElem_range]
    have ht' : t < d + 1 := by simpa using ht
    simp only [pvI, gpv]
    walk_at "e"
    have htl : (lgK g d t).length = t * g.length := LG_lenK
    have hS1 := g1.len
    have hr := lt_at r1
    have hmul : (t + 1) * g.length ≤ 950 := Nat.le_trans (Nat.mul_le_mul_right _ ht') hl
    rw [Nat.add_mul, Nat.one_mul] at hmul
    refine Lp_X (g.map Nd.pv) (fun i ρ S' => ∃ e5, ρ = [some (PV.tup (g.map Nd.pv)), some (.int (d : Nat)), some (.ref S.length), some (.int (g.length : Nat)), some (.int (t : Nat)), e5, none] ∧ Grow S S' ∧ S'[S.length]? = some (.lst ((lgK g d t ++ (g.take i).map (lcN g.length d t)).map Nd.pv)))
      ⟨_, rfl, g1, by simpa using r1⟩ (by show _ < 1000000; rw [List.length_map]; omega) (fun i ρ S' hI => nx_seq _ _ (Grow.refl _)) ?_ ?_
    · rintro i hi ρ S2 ⟨e5, rfl, g2, r2⟩
      have hi' : i < g.length := by simpa using hi
      rw [List.getElem_map]
      have htk : (g.take (i + 1)).map (lcN g.length d t) = (g.take i).map (lcN g.length d t) ++ [lcN g.length d t g[i]] := by rw [List.take_succ_eq_append_getElem hi', List.map_append]; rfl
      rw [htk]
      have hpl := hg _ (List.getElem_mem hi')
      generalize g[i] = x at *
      cases x with
      | tup c ps =>
        simp only [Nd.pv]
        walk_at "e"
        walk_at "k"
        walk_at "e"
        refine Br_e (fun htd => ?_) (fun htd => ?_)
        · walk_at "e"
          try simp only [r2]
          walk_at "e"
          try simp only [r2]
          refine ⟨by decide, by simp only [List.length_map, List.length_append, List.length_take, nsz]; omega, ?_⟩
          have htd : t = d := by omega
          refine ⟨_, rfl, g2.set (by omega), ?_⟩
          rw [set_at r2, ← List.append_assoc, List.map_append (l₂ := [_])]
          simp only [lcN, if_pos htd]
          rfl
        · have htd : t ≠ d := fun z => htd (by omega)
          walk_at "e"
          walk_at "k"
          walk_at "e"
          refine lc_ty ps pvI (fun j => pvI (j + g.length * (t + 1))) _ nx_seq (by simp [wipe]) (by show _ < 1000000; have : ps.length ≤ 1000 := hpl.1; omega) (by have : ps.length ≤ 1000 := hpl.1; simp only [nsz]; omega) (fun j hj S' g' => ?_) fun S7 g7 => ?_
          · simp only [wipe_1, List.set_cons_succ, List.set_cons_zero, pvI]
            walk_at "e"
            refine ⟨.inl ⟨by simp only [W64]; omega, by simp only [W64]; omega⟩, Grow.refl _, ?_⟩
            rw [Int.natCast_add, Int.natCast_mul, Int.natCast_add]
            rfl
          walk_at "e"
          refine ⟨by decide, ?_⟩
          rw [show cutL [PV.str z_tuple, PV.str c, PV.tup (List.map pvI ps)] none (some 2) = [PV.str z_tuple, PV.str c] from rfl, o_addt]
          refine ⟨by show 3 ≤ nsz; decide, ?_⟩
          have r8 := app_old (g7.at r2) [MO.lst (ps.map fun j => pvI (j + g.length * (t + 1)))]
          have g8 : Grow S (S7 ++ [MO.lst (ps.map fun j => pvI (j + g.length * (t + 1)))]) := g2.trans g7.push'
          generalize S7 ++ [MO.lst (ps.map fun j => pvI (j + g.length * (t + 1)))] = S8 at *
          walk_at "e"
          try simp only [r8]
          walk_at "e"
          try simp only [r8]
          refine ⟨by simp only [List.length_map, List.length_append, List.length_take, nsz]; omega, ?_⟩
          refine ⟨_, rfl, g8.set (by omega), ?_⟩
          rw [set_at r8, ← List.append_assoc, List.map_append (l₂ := [_])]
          simp only [lcN, if_neg htd, List.map_map]
          simp only [List.map_cons, List.map_nil, Nd.pv, List.map_map]
          rfl
      | var c =>
        simp only [Nd.pv]
        walk_at "e"
        walk_at "k"
        walk_at "e"
        try simp only [r2]
        walk_at "e"
        walk_at "k"
        walk_at "e"
        try simp only [r2]
        walk_at "e"
        try simp only [r2]
        refine ⟨by simp only [List.length_map, List.length_append, List.length_take, nsz]; omega, ?_⟩
        refine ⟨_, rfl, g2.set (by omega), ?_⟩
        rw [set_at r2, ← List.append_assoc, List.map_append (l₂ := [_])]
        rfl
      | int c =>
        simp only [Nd.pv]
        walk_at "e"
        walk_at "k"
        walk_at "e"
        try simp only [r2]
        walk_at "e"
        walk_at "k"
        walk_at "e"
        try simp only [r2]
        walk_at "e"
        try simp only [r2]
        refine ⟨by simp only [List.length_map, List.length_append, List.length_take, nsz]; omega, ?_⟩
        refine ⟨_, rfl, g2.set (by omega), ?_⟩
        rw [set_at r2, ← List.append_assoc, List.map_append (l₂ := [_])]
        rfl
      | atom c =>
        simp only [Nd.pv]
        walk_at "e"
        walk_at "k"
        walk_at "e"
        try simp only [r2]
        walk_at "e"
        walk_at "k"
        walk_at "e"
        try simp only [r2]
        walk_at "e"
        try simp only [r2]
        refine ⟨by simp only [List.length_map, List.length_append, List.length_take, nsz]; omega, ?_⟩
        refine ⟨_, rfl, g2.set (by omega), ?_⟩
        rw [set_at r2, ← List.append_assoc, List.map_append (l₂ := [_])]
        rfl
      | name c c1 =>
        simp only [Nd.pv]
        walk_at "e"
        walk_at "k"
        walk_at "e"
        try simp only [r2]
        walk_at "e"
        walk_at "k"
        walk_at "e"
        try simp only [r2]
        walk_at "e"
        try simp only [r2]
        refine ⟨by simp only [List.length_map, List.length_append, List.length_take, nsz]; omega, ?_⟩
        refine ⟨_, rfl, g2.set (by omega), ?_⟩
        rw [set_at r2, ← List.append_assoc, List.map_append (l₂ := [_])]
        rfl
    · rintro ρ S2 ⟨e5, rfl, g2, r2⟩
      refine ⟨_, _, rfl, g2, ?_⟩
      simp only [List.length_map, List.take_length] at r2
      rw [r2, lgK, lgK, List.range_succ, List.flatMap_append]
      simp
  · rintro ρ S1 ⟨e4, e5, rfl, g1, r1⟩
    simp only [List.length_map, List.length_range] at r1
    walk_at "e"
    try simp only [r1]
    walk_at "e"
    have hLl : (LG g d).length = (d + 1) * g.length := LG_len
    refine lleast_specM (g := LG g d) (n := n) (u := d + 1) (LG_ok hg) (by rw [hLl]; exact Nat.mul_pos (by omega) g0) (by omega) (LG_deep hg g0) ⟨by rw [hLl]; exact Nat.mul_pos (by omega) g0, by simp⟩ fun S2 g2 => ?_
    rw [LG_least hg g0]
    walk_at "e"
    exact hP S2 (g1.trans g2)
end
end LD
set_option maxRecDepth 100000
namespace LD
open L3
local macro_rules | `(tactic| walk_at "e") => `(tactic| try simp -dsimp only [↓y_cons, ↓y_if, ↓y_asub, ↓W_rt, ↓W_ex, ↓W_fr, ↓W_lc, ↓W_pass, ↓W_brk, ↓W_cnt, ↓W_retn, ↓W_nil, ↓nxt_nx, ↓nxt_rt, ↓nxt_bk, ↓nxt_ct, ↓retK_rt, ↓retK_nx, ↓e_con, ↓e_glo, ↓e_tup, ↓e_lst, ↓e_bin, ↓e_negi, ↓e_nt, ↓T_idx, ↓T_cal, ↓T_bf, ↓T_bin, ↓T_tup, ↓T_fld, ↓T_mth, ↓T_ife, ↓T_var, ↓T_glo, ↓T_con, ↓T_cmp, ↓T_chn, ↓T_isi, ↓T_nt, ↓T_and, ↓T_or, ↓e_and, ↓e_or, ↓e_ife, ↓e_cmp, ↓e_chn, ↓e_idx, ↓e_slc, ↓e_fld, ↓e_cal, ↓e_mth, ↓e_dnew, ↓e_lens, ↓m_fn, ↓Iq_R, ↓e_bf1, ↓e_bf, ↓e_isi, ↓es_nil, ↓es_cons, ↓eo_no, ↓i_seq, ↓q_tup, ↓q_rol, ↓q_str, ↓o_addi, ↓o_subi, ↓o_p9, ↓o_slct, ↓u_lenT, ↓u_lenC, ↓u_int, ↓u_abs, ↓u_max, ↓u_min, ↓u_tupT, ↓u_lstT, ↓u_lstC, ↓Br_t, ↓Br_f, ↓Br_n, ↓Tq_bl, ↓Tq_int, ↓Tq_tup, ↓Tq_rol, ↓Tq_non, ↓Gq_s, ↓Yq_non, ↓Yq_bl, ↓Yq_int, ↓Yq_str, ↓Yq_tup, ↓Yq_rol, ↓Cq_isnn, ↓Cq_isN, ↓Iq_T, ↓Iq_C, ↓Cq_eqi, ↓Cq_nei, ↓Cq_eqs, ↓Cq_nes, ↓Cq_eqb, ↓Cq_neb, ↓Cq_lti, ↓Cq_lei, ↓Cq_gti, ↓Cq_gei, ↓Cq_isb, ↓Cq_isnb, ↓Cq_lts, ↓Cq_inn1, ↓Cq_nin1, ↓v_0, ↓n_0, ↓g_0, ↓t_0, ↓v_1, ↓n_1, ↓g_1, ↓t_1, ↓v_2, ↓n_2, ↓g_2, ↓t_2, ↓v_3, ↓n_3, ↓g_3, ↓t_3, ↓v_4, ↓n_4, ↓g_4, ↓t_4, ↓v_5, ↓n_5, ↓g_5, ↓t_5, ↓v_6, ↓n_6, ↓g_6, ↓t_6, ↓v_7, ↓n_7, ↓g_7, ↓t_7, ↓v_8, ↓n_8, ↓g_8, ↓t_8, ↓v_9, ↓n_9, ↓g_9, ↓t_9, ↓v_10, ↓n_10, ↓g_10, ↓t_10, ↓v_11, ↓n_11, ↓g_11, ↓t_11, ↓v_12, ↓n_12, ↓g_12, ↓t_12, ↓v_13, ↓n_13, ↓g_13, ↓t_13, Iq_R, Br_t, Br_f, Br_n, Tq_bl, Tq_int, Tq_tup, Tq_rol, Tq_non, Gq_s, Yq_non, Yq_bl, Yq_int, Yq_str, Yq_tup, Yq_rol, Cq_isnn, Cq_isN, Iq_T, Iq_C, Cq_eqi, Cq_nei, Cq_eqs, Cq_nes, Cq_eqb, Cq_neb, Cq_lti, Cq_lei, Cq_gti, Cq_gei, Cq_isb, Cq_isnb, Cq_lts, Cq_inn1, Cq_nin1, e_neg, eo_ex, i_rng, i_rng2, y_aug, at_0, at_1, at_2, at_3, cxF_T, cxF_call, Bool.not_true, Bool.not_false, Bool.false_eq_true, if_true, if_false, tyB, PV.int.injEq, exists_eq_left, exists_eq_left', List.isEmpty_nil, List.isEmpty_cons, List.length_cons, List.length_nil, List.map_cons, List.map_nil, Option.map_some, startEnv, List.replicate, List.cons_append, List.nil_append, PV.int.injEq, ↓cG, ↓e_ddis, ↓y_afld, ↓y_atup, ↓t_tup, ↓ts_nil, ↓ts_cons, ↓e_dget1, ↓e_dget2, ↓e_dset, ↓e_lzip, ↓e_rev, ↓i_enum, ↓y_augs, ↓y_try, ↓y_rai, ↓h_nil, ↓h_ret, ↓h_isi, ↓e_ddist, ↓e_kdi, ↓e_lrng, ↓i_zip, ↓i_rvd, ↓y_del, ↓e_negU, ↓y_augf, ↓v_14, ↓n_14, ↓g_14, ↓t_14, ↓v_15, ↓n_15, ↓g_15, ↓t_15, ↓v_16, ↓n_16, ↓g_16, ↓t_16, ↓v_17, ↓n_17, ↓g_17, ↓t_17, ↓v_18, ↓n_18, ↓g_18, ↓t_18, ↓v_19, ↓n_19, ↓g_19, ↓t_19, ↓v_20, ↓n_20, ↓g_20, ↓t_20, ↓v_21, ↓n_21, ↓g_21, ↓t_21, ↓v_22, ↓n_22, ↓g_22, ↓t_22, ↓v_23, ↓n_23, ↓g_23, ↓t_23, u_intB, o_muli, o_modi, o_fdivi, cG, k_ix, ixO_L, ixO_D, ixO_F, k_sx, k_sf, k_fld, k_tr, k_ty, k_in, k_nin, k_int_i, k_int_s, k_int_b, k_int_n, k_nint, k_inr, k_ninr, k_len, k_tuple, k_list, k_sorted, k_min, k_q, k_lens, k_add, k_mul, k_slc, k_mth, mqO_L, lm_app, lm_ext, lm_pop, k_app, k_extT, k_extL, k_pop, k_isd, k_dget, k_dset, k_lzip, k_revT, k_revL, k_enT, k_enL, o_subb, k_ltT, k_gtT, k_ltL, k_lrng, k_zip, Uq_i, t_tupL, lm_idx, k_idx, k_del, k_mthS, sm_join, sm_sw, sm_low, k_join, k_sw, u_strS, k_pop0, nJ_nx, nJ_rt, nJ_bk, nJ_ct, inL_t, inL_i, inL_s, inL_b, inL_n, wipe_1, wipe_nil, app_0, app_k, sapp_0, sapp_k, List.getElem?_cons_zero, List.getElem?_cons_succ, List.set_cons_zero, List.set_cons_succ, List.append_assoc, List.length_append, Nat.reduceAdd, glob_MOST_NODES, g_MOST_NODES])
local macro_rules | `(tactic| walk_at "s") => `(tactic| try simp -dsimp only [↓y_cons, ↓y_if, ↓y_asub, ↓W_rt, ↓W_ex, ↓W_fr, ↓W_lc, ↓W_pass, ↓W_brk, ↓W_cnt, ↓W_retn, ↓W_nil, ↓nxt_nx, ↓nxt_rt, ↓nxt_bk, ↓nxt_ct, ↓retK_rt, ↓retK_nx, ↓e_con, ↓e_glo, ↓e_tup, ↓e_lst, ↓e_bin, ↓e_negi, ↓e_nt, ↓T_idx, ↓T_cal, ↓T_bf, ↓T_bin, ↓T_tup, ↓T_fld, ↓T_mth, ↓T_ife, ↓T_var, ↓T_glo, ↓T_con, ↓T_cmp, ↓T_chn, ↓T_isi, ↓T_nt, ↓T_and, ↓T_or, ↓e_and, ↓e_or, ↓e_ife, ↓e_cmp, ↓e_chn, ↓e_idx, ↓e_slc, ↓e_fld, ↓e_cal, ↓e_mth, ↓e_dnew, ↓e_lens, ↓m_fn, ↓Iq_R, ↓e_bf1, ↓e_bf, ↓e_isi, ↓es_nil, ↓es_cons, ↓eo_no, ↓i_seq, ↓q_tup, ↓q_rol, ↓q_str, ↓o_addi, ↓o_subi, ↓o_p9, ↓o_slct, ↓u_lenT, ↓u_lenC, ↓u_int, ↓u_abs, ↓u_max, ↓u_min, ↓u_tupT, ↓u_lstT, ↓u_lstC, ↓Br_t, ↓Br_f, ↓Br_n, ↓Tq_bl, ↓Tq_int, ↓Tq_tup, ↓Tq_rol, ↓Tq_non, ↓Gq_s, ↓Yq_non, ↓Yq_bl, ↓Yq_int, ↓Yq_str, ↓Yq_tup, ↓Yq_rol, ↓Cq_isnn, ↓Cq_isN, ↓Iq_T, ↓Iq_C, ↓Cq_eqi, ↓Cq_nei, ↓Cq_eqs, ↓Cq_nes, ↓Cq_eqb, ↓Cq_neb, ↓Cq_lti, ↓Cq_lei, ↓Cq_gti, ↓Cq_gei, ↓Cq_isb, ↓Cq_isnb, ↓Cq_lts, ↓Cq_inn1, ↓Cq_nin1, ↓v_0, ↓n_0, ↓g_0, ↓t_0, ↓v_1, ↓n_1, ↓g_1, ↓t_1, ↓v_2, ↓n_2, ↓g_2, ↓t_2, ↓v_3, ↓n_3, ↓g_3, ↓t_3, ↓v_4, ↓n_4, ↓g_4, ↓t_4, ↓v_5, ↓n_5, ↓g_5, ↓t_5, ↓v_6, ↓n_6, ↓g_6, ↓t_6, ↓v_7, ↓n_7, ↓g_7, ↓t_7, ↓v_8, ↓n_8, ↓g_8, ↓t_8, ↓v_9, ↓n_9, ↓g_9, ↓t_9, ↓v_10, ↓n_10, ↓g_10, ↓t_10, ↓v_11, ↓n_11, ↓g_11, ↓t_11, ↓v_12, ↓n_12, ↓g_12, ↓t_12, ↓v_13, ↓n_13, ↓g_13, ↓t_13, Iq_R, Br_t, Br_f, Br_n, Tq_bl, Tq_int, Tq_tup, Tq_rol, Tq_non, Gq_s, Yq_non, Yq_bl, Yq_int, Yq_str, Yq_tup, Yq_rol, Cq_isnn, Cq_isN, Iq_T, Iq_C, Cq_eqi, Cq_nei, Cq_eqs, Cq_nes, Cq_eqb, Cq_neb, Cq_lti, Cq_lei, Cq_gti, Cq_gei, Cq_isb, Cq_isnb, Cq_lts, Cq_inn1, Cq_nin1, e_neg, eo_ex, i_rng, i_rng2, y_aug, at_0, at_1, at_2, at_3, cxF_T, cxF_call, Bool.not_true, Bool.not_false, Bool.false_eq_true, if_true, if_false, tyB, PV.int.injEq, exists_eq_left, exists_eq_left', List.isEmpty_nil, List.isEmpty_cons, List.length_cons, List.length_nil, List.map_cons, List.map_nil, Option.map_some, startEnv, List.replicate, List.cons_append, List.nil_append, PV.int.injEq, ↓cG, ↓e_ddis, ↓y_afld, ↓y_atup, ↓t_tup, ↓ts_nil, ↓ts_cons, ↓e_dget1, ↓e_dget2, ↓e_dset, ↓e_lzip, ↓e_rev, ↓i_enum, ↓y_augs, ↓y_try, ↓y_rai, ↓h_nil, ↓h_ret, ↓h_isi, ↓e_ddist, ↓e_kdi, ↓e_lrng, ↓i_zip, ↓i_rvd, ↓y_del, ↓e_negU, ↓y_augf, ↓v_14, ↓n_14, ↓g_14, ↓t_14, ↓v_15, ↓n_15, ↓g_15, ↓t_15, ↓v_16, ↓n_16, ↓g_16, ↓t_16, ↓v_17, ↓n_17, ↓g_17, ↓t_17, ↓v_18, ↓n_18, ↓g_18, ↓t_18, ↓v_19, ↓n_19, ↓g_19, ↓t_19, ↓v_20, ↓n_20, ↓g_20, ↓t_20, ↓v_21, ↓n_21, ↓g_21, ↓t_21, ↓v_22, ↓n_22, ↓g_22, ↓t_22, ↓v_23, ↓n_23, ↓g_23, ↓t_23, u_intB, o_muli, o_modi, o_fdivi, cG, k_ix, ixO_L, ixO_D, ixO_F, k_sx, k_sf, k_fld, k_tr, k_ty, k_in, k_nin, k_int_i, k_int_s, k_int_b, k_int_n, k_nint, k_inr, k_ninr, k_len, k_tuple, k_list, k_sorted, k_min, k_q, k_lens, k_add, k_mul, k_slc, k_mth, mqO_L, lm_app, lm_ext, lm_pop, k_app, k_extT, k_extL, k_pop, k_isd, k_dget, k_dset, k_lzip, k_revT, k_revL, k_enT, k_enL, o_subb, k_ltT, k_gtT, k_ltL, k_lrng, k_zip, Uq_i, t_tupL, lm_idx, k_idx, k_del, k_mthS, sm_join, sm_sw, sm_low, k_join, k_sw, u_strS, k_pop0, nJ_nx, nJ_rt, nJ_bk, nJ_ct, inL_t, inL_i, inL_s, inL_b, inL_n, wipe_1, wipe_nil, app_0, app_k, sapp_0, sapp_k, List.getElem?_cons_zero, List.getElem?_cons_succ, List.set_cons_zero, List.set_cons_succ, List.append_assoc, List.length_append, Nat.reduceAdd, glob_MOST_NODES, g_MOST_NODES, *])
local macro_rules | `(tactic| walk_at "b") => `(tactic| first | (refine Br_d (fun h => ?_) (fun h => ?_) <;> walk_at "e") | (refine Br_e (fun h => ?_) (fun h => ?_) <;> walk_at "e") | (refine Br_i (fun h => ?_) (fun h => ?_) <;> walk_at "e"))
local macro_rules | `(tactic| walk_at "k") => `(tactic| first | (refine Br_e (fun h => absurd h (by decide)) (fun _ => ?_)) | (refine Br_d (fun h => absurd h (by decide)) (fun _ => ?_)) | (refine Br_e (fun _ => ?_) (fun h => absurd rfl h)) | (refine Br_d (fun _ => ?_) (fun h => absurd (by decide) h)) | (refine Br_e (fun _ => ?_) (fun h => absurd (by decide) h)) | (refine Br_d (fun h => absurd h (by omega)) (fun _ => ?_)) | (refine Br_d (fun _ => ?_) (fun h => absurd (by omega) h)) | (refine Br_e (fun h => absurd h (by omega)) (fun _ => ?_)) | (refine Br_e (fun _ => ?_) (fun h => absurd (by omega) h)))
section
variable {n s : Nat} {S : Store} {Q : PV → Store → Prop} {E : Exn → Store → Prop} {g : List Nd}
def wdN (m k j : Nat) : Nat := (k * (j + 2) + 3 * j + 1) % m
def wdX (m k : Nat) : Nd := .tup z_f ((List.range 6).map (wdN m k))
def wdOk (m : Nat) (x : Nd) : Prop := pl 5 x.pv = true ∧ x.parts.length ≤ 6 ∧ ∀ j ∈ x.parts, j < m
theorem wdX_ok {m k : Nat} (h : 0 < m) : wdOk m (wdX m k) := by
  refine ⟨?_, by simp [wdX, Nd.parts], fun j hj => ?_⟩
  · simp only [wdX, Nd.pv, pl, pls, Bool.and_true, Bool.true_and]
    rw [show (List.all z_tuple fun x => decide (x < 1114112)) = true from by decide, show (List.all z_f fun x => decide (x < 1114112)) = true from by decide, Bool.true_and, Bool.true_and, pls_iff]
    intro z hz
    obtain ⟨x, hx, rfl⟩ := List.mem_map.mp hz
    rfl
  · simp only [wdX, Nd.parts] at hj
    obtain ⟨i, _, rfl⟩ := List.mem_map.mp hj
    exact Nat.mod_lt _ h
theorem lwide_spec (hs : Strm S s) (hP : ∀ g S', gok g → okG g → 90 ≤ g.length → g.length ≤ 129 → Strm S' s → Q (gpv g) S') : Wq (callG tab (n + 2) i__law_wide [.ref s] S) Q E := by
  refine Wq_callG tab__law_wide rfl ?_
  simp only [f__law_wide, b__law_wide, startEnv, List.map_cons, List.map_nil, List.length_cons, List.length_nil, List.replicate, List.cons_append, List.nil_append, Nat.reduceAdd, Nat.reduceSub]
  walk_at "e"
  refine ⟨by decide, ?_⟩
  have hsl0 := Strm_lt hs
  refine d_fr (hs.grow (Grow.push _ _)) (by decide) (by decide) fun k S1 hk f1 s1 => ?_
  have r1 := f1.at_ S.length _ (by simp; omega) (show (S ++ [MO.lst []])[S.length]? = _ by rw [app_0]; rfl)
  walk_at "e"
  have hki : (90 : Int) + (k : Nat) = (k + 90 : Nat) := by omega
  generalize (90 : Int) + (k : Nat) = ki at hki ⊢
  subst hki
  refine ⟨by simp only [W62]; omega, ?_⟩
  rw [show (((k + 90 : Nat) : Int)).toNat = k + 90 by omega]
  have hkm : k + 90 ≤ 129 := by omega
  have hk0 : 90 ≤ k + 90 := by omega
  clear hk f1
  generalize k + 90 = m at *
  refine Lp_X ((List.range m).map pvI) (fun t ρ S' => ∃ (e3 e4 : Option PV), ρ = [some (.ref s), some (.ref S.length), some (.int (m : Nat)), e3, e4, none] ∧ Strm S' s ∧ S'[S.length]? = some (.lst (((List.range t).map (wdX m)).map Nd.pv)))
    ⟨_, _, rfl, s1, r1⟩ (by show _ < 1000000; simp; omega) (fun t ρ S' hI => nx_rngN) ?_ ?_
  · rintro t ht ρ S2 ⟨e3, e4, rfl, s2, r2⟩
    rw [List.getElem_map, List.getElem_range]
    have ht' : t < m := by simpa using ht
    simp only [pvI]
    walk_at "e"
    refine ⟨by decide, ?_⟩
    generalize hJ : ItV.rng 0 (Int.toNat 6) = J
    refine lc_ty (List.range 6) pvI (fun j => pvI (wdN m t j)) J ?_ ?_ ?_ ?_ (fun j hj S' g' => ?_) fun S7 g7 => ?_
    · subst hJ
      exact fun i S' _ => nx_rngN
    · simp [wipe]
    · show _ < 1000000
      rw [List.length_range]
      decide
    · rw [List.length_range]
      decide
    · have hj := List.mem_range.mp hj
      simp only [wipe_1, List.set_cons_succ, List.set_cons_zero, pvI]
      walk_at "e"
      refine ⟨.inl ⟨by simp only [W64]; omega, by simp only [W64]; omega⟩, .inl ⟨by decide, by decide⟩, by omega, Grow.refl _, ?_⟩
      simp [wdN]
    have r8 := app_old (g7.at r2) [MO.lst ((List.range 6).map fun j => pvI (wdN m t j))]
    have s8 : Strm (S7 ++ [MO.lst ((List.range 6).map fun j => pvI (wdN m t j))]) s := s2.grow g7.push'
    generalize hS8 : S7 ++ [MO.lst ((List.range 6).map fun j => pvI (wdN m t j))] = S8 at *
    have p8 : S8[S7.length]? = some (.lst ((List.range 6).map fun j => pvI (wdN m t j))) := hS8 ▸ at_push
    try simp only [r8]
    walk_at "e"
    try simp only [p8]
    walk_at "e"
    try simp only [r8]
    refine ⟨by decide, by simp only [List.length_map, List.length_range, nsz]; omega, ?_⟩
    have hs8 := Strm_lt s8
    refine ⟨_, _, rfl, s8.fr (W := [S.length]) (Fr.set (Fr.refl _) (.inl (by simp))) (by simp; omega) (by simp; omega), ?_⟩
    rw [set_at r8, show List.range (t + 1) = List.range t ++ [t] from List.range_succ, List.map_append, List.map_append]
    simp only [wdX, List.map_cons, List.map_nil, Nd.pv, List.map_map]
    rfl
  · rintro ρ S2 ⟨e3, e4, rfl, s2, r2⟩
    walk_at "e"
    try simp only [r2]
    simp only [List.length_map, List.length_range] at r2 ⊢
    refine ⟨by decide, 1, ?_, by decide, ?_⟩
    · simp [ixN]
      omega
    have hr := lt_at r2
    simp only [set_at r2]
    refine ⟨2, ?_, ?_⟩
    · simp [ixN]
      omega
    simp only [List.set_set, set_at r2]
    generalize hG : (((List.range m).map (wdX m)).set 1 (.atom z_a)).set 2 (.int 5) = G
    have hpv : ((List.map Nd.pv (List.map (wdX m) (List.range m))).set 1 (PV.tup [PV.str z_atom, PV.str z_a])).set 2 (PV.tup [PV.str z_int, PV.int 5]) = G.map Nd.pv := by
      rw [← hG, List.map_set, List.map_set]
      rfl
    have hGl : G.length = m := by rw [← hG]; simp
    have hGo : ∀ x ∈ G, wdOk m x := by
      intro x hx
      rw [← hG] at hx
      rcases List.mem_or_eq_of_mem_set hx with hx | rfl
      · rcases List.mem_or_eq_of_mem_set hx with hx | rfl
        · obtain ⟨k, _, rfl⟩ := List.mem_map.mp hx
          exact wdX_ok (by omega)
        · exact ⟨by decide, by decide, by simp [Nd.parts]⟩
      · exact ⟨by decide, by decide, by simp [Nd.parts]⟩
    rw [hpv]
    have hs2 := Strm_lt s2
    refine hP G _ (fun x hx => (hGo x hx).1) (fun x hx => ⟨by have := (hGo x hx).2.1; omega, by rw [hGl]; exact (hGo x hx).2.2⟩) (by omega) (by omega) (s2.fr (W := [S.length]) (Fr.set (Fr.refl _) (.inl (by simp))) (by simp; omega) (by simp; omega))
theorem given_gpv {h : List Nd} (hok : ∀ x ∈ h, pl 5 x.pv = true) (hP : Q (gpv h) S) : Wq (callG tab (n + 1) i__law_given [gpv h] S) Q E := by
  refine Wq_callG tab__law_given rfl ?_
  simp only [f__law_given, b__law_given, startEnv, List.map_cons, List.map_nil, List.length_cons, List.length_nil, List.replicate, List.cons_append, List.nil_append, Nat.reduceAdd, Nat.reduceSub]
  walk_at "e"
  simp only [gpv] at hP ⊢
  walk_at "e"
  refine ⟨by decide, by decide, by decide, by decide, ?_⟩
  rw [show cutL (h.map Nd.pv) none (some 1) = (h.take 1).map Nd.pv from by simp [cutL, sIx, List.map_take]]
  have hp1 : pl 40 (PV.tup ((h.take 1).map Nd.pv)) = true := by
    refine pl_mono (d := 6) ?_ (by decide)
    simp only [pl]
    rw [pls_iff]
    intro z hz
    obtain ⟨x, hx, rfl⟩ := List.mem_map.mp hz
    exact hok x (List.mem_of_mem_take hx)
  have hno : PV.tup ((h.take 1).map Nd.pv) ∉ [PV.tup [.str z_refused], PV.tup [.str z_large], PV.tup [.str z_wide]] := by
    cases h with
    | nil => simp
    | cons x r => cases x <;> simp [Nd.pv]
  rw [Cq_inp hp1 (by decide), decide_eq_false hno]
  walk_at "e"
  exact hP
theorem told_x {ρ0 ρ1 : Option PV} {rest : CSs} (hQ : Q (.tup [.str z_refused, .str z_many]) S) : Xq (cxF tab n) c_TooMany (some 2)
    (HSs.cons (some c_LeatworkError) (CE.tup (CEs.cons (CE.con (PV.str z_refused)) (CEs.cons (CE.con (PV.str z_many)) CEs.nil))) HSs.nil)
    { c := c_TooMany, fs := [] } [ρ0, ρ1, none] S (nxt (cxF tab n) rest (retK Q) fun x _ S => E x S) fun x _ S => E x S := by
  unfold Xq
  rw [show subO (cxF tab n).T { c := c_TooMany, fs := [] } c_TooMany = some true from rfl]
  refine ⟨rfl, ?_⟩
  walk_at "e"
  rw [show subO (cxF tab n).T { c := c_TooMany, fs := [] } c_LeatworkError = some true from rfl]
  walk_at "e"
  exact ⟨by decide, hQ⟩
theorem told_spec (hg : okG g) (hk : gok g) (g0 : 0 < g.length) {d : Nat} (hl : (d + 1) * g.length ≤ 950) (hP : (leastL (cutG g d)).length ≤ 400 → ∀ S', Q (gpv (leastL (cutG g d))) S') (hE : 400 < (leastL (cutG g d)).length → ∀ S', Q (.tup [.str z_refused, .str z_many]) S') :
    Wq (callG tab (n + 8) i__law_told [gpv g, .int (d : Nat)] S) Q E := by
  have hco := cutG_ok hg g0 (d := d)
  have hcl := cutG_len (g := g) (d := d)
  have hkc : gok (cutG g d) := cutG_pl hk hg g0
  have hgl : g.length ≤ 950 := Nat.le_trans (by rw [Nat.add_mul]; omega) hl
  have hdl : d ≤ 950 := Nat.le_trans (Nat.le_trans (Nat.le_succ d) (Nat.le_mul_of_pos_right _ g0)) hl
  rw [Nat.mul_comm] at hl
  refine Wq_callG tab__law_told rfl ?_
  simp only [f__law_told, b__law_told, startEnv, List.map_cons, List.map_nil, List.length_cons, List.length_nil, List.replicate, List.cons_append, List.nil_append, Nat.reduceAdd, Nat.reduceSub]
  walk_at "e"
  refine cut_spec (n := n + 6) hg g0 (by omega) (by omega) (by omega) fun S1 g1 => ?_
  refine checkedC_specX hco.1 hco.2.1 (by omega) (fun q1 q2 S2 g2 => ?_) (fun q S2 g2 => ?_)
  · walk_at "e"
    refine given_gpv (leastL_pl hco.1 hco.2.1 hkc) ?_
    walk_at "e"
    exact hP q2 _
  · refine told_x (hE ?_ _)
    rcases q with ⟨k, q⟩ | q
    · have h1 := it_le hco.1 hco.2.1 k
      have h2 := nd_firsts hco.1 hco.2.1 fun k k0 hk => Rc.all hg g0 k0 hk
      omega
    · exact q
end
theorem law_val (ns : List Int) (h63 : ns.length ≤ 63) : ∃ S, callF tab 40 i_law [.rol (ns.map .int)] [] = .ok (.bl true) S := by
  suffices h : Wq (callG tab (39 + 1) i_law [.rol (ns.map .int)] []) (fun v _ => v = .bl true) NoX by
    obtain ⟨v, S, e, rfl⟩ := h.get
    rw [← cG] at e
    exact ⟨S, e⟩
  refine Wq_callG tab_law rfl ?_
  simp only [f_law, b_law, startEnv, List.map_cons, List.map_nil, List.length_cons, List.length_nil, List.replicate, List.cons_append, List.nil_append, Nat.reduceAdd, Nat.reduceSub]
  walk_at "e"
  refine d_stream (n := 38) h63 fun S0 s0 l0 => ?_
  walk_at "e"
  refine lgraph_spec (n := 35) (most := 7) s0 (by decide) (by decide) fun g S1 hg hok h0 hl f1 s1 => ?_
  walk_at "e"
  refine d_fr (n := 38) s1 (by decide) (by decide) fun d S2 hd f2 s2 => ?_
  walk_at "e"
  refine d_fr (n := 38) s2 (by decide) (by decide) fun k S3 hk f3 s3 => ?_
  walk_at "e"
  refine Br_J (fun ρ S' => ∃ (g : List Nd) (d : Nat), ρ = [some (.rol (ns.map .int)), some (.ref 1), some (gpv g), some (.int (d : Nat)), none, none] ∧ gok g ∧ okG g ∧ 0 < g.length ∧ (d + 1) * g.length ≤ 903 ∧ d ≤ 6) (fun _ => ?_) (fun _ => ?_) ?_
  · walk_at "e"
    refine lwide_spec (n := 37) s3 fun g S' a b c c2 e => ?_
    walk_at "e"
    refine d_fr (n := 38) e (by decide) (by decide) fun d S4 hd f4 s4 => ?_
    walk_at "e"
    refine ⟨g, d + 3, ?_, a, b, by omega, ?_, by omega⟩
    · rw [show (3 : Int) + (d : Nat) = ((d + 3 : Nat) : Int) by omega]
    · exact Nat.mul_le_mul (show d + 3 + 1 ≤ 7 by omega) c2
  · walk_at "e"
    exact ⟨g, d, rfl, hok, hg, h0, Nat.le_trans (Nat.mul_le_mul (show d + 1 ≤ 7 by omega) hl) (by decide), by omega⟩
  clear hg hok h0 hl f1 s1 f2 s2 hd hk f3 s3
  rintro ρ S3 ⟨g, d, hρ, h6⟩
  subst hρ
  have hok := h6.1
  have hg := h6.2.1
  have h0 := h6.2.2.1
  have hl := h6.2.2.2.1
  have hd := h6.2.2.2.2
  clear h6
  walk_at "e"
  obtain ⟨m, hm⟩ : ∃ m, 39 = m + d + 4 := ⟨35 - d, by omega⟩
  have ll : ∀ {Q}, Wq (callG tab (m + d + 4) i__law_cut [gpv g, .int (d : Nat)] S3) Q NoX → Wq (callG tab 39 i__law_cut [gpv g, .int (d : Nat)] S3) Q NoX := fun q => by
    rw [hm]
    exact q
  refine ll ?_
  refine lcut_spec hg h0 (by omega) fun S4 g4 => ?_
  walk_at "e"
  have htold : ∀ {Q : PV → Store → Prop} {S : Store}, ((leastL (cutG g d)).length ≤ 400 → ∀ S', Q (gpv (leastL (cutG g d))) S') → (400 < (leastL (cutG g d)).length → ∀ S', Q (.tup [.str z_refused, .str z_many]) S') → Wq (callG tab 39 i__law_told [gpv g, .int (d : Nat)] S) Q NoX := fun a b => told_spec (n := 31) hg hok h0 (by omega) a b
  have hco := cutG_ok hg h0 (d := d)
  have hpl := leastL_pl hco.1 hco.2.1 (cutG_pl hok hg h0)
  generalize leastL (cutG g d) = h at *
  simp only [gpv, List.length_map]
  walk_at "e"
  simp only [List.length_map]
  refine Br_d (fun hc => ?_) (fun hc => ?_)
  · walk_at "e"
    refine ⟨by decide, ?_⟩
    refine htold (fun z => absurd z (by omega)) fun _ S8 => ?_
    walk_at "e"
    rw [Cq_eqp (by decide) (by decide), decide_eq_true rfl]
  · walk_at "e"
    refine htold (fun _ S8 => ?_) fun z => absurd z (by omega)
    simp only [gpv]
    walk_at "e"
    have hp : pl 60 (PV.tup (h.map Nd.pv)) = true := by
      refine pl_mono (d := 6) ?_ (by decide)
      simp only [pl]
      rw [pls_iff]
      intro z hz
      obtain ⟨x, hx, rfl⟩ := List.mem_map.mp hz
      exact hpl x hx
    rw [Cq_eqp hp hp, decide_eq_true rfl]
end LD
namespace LD
open PySem PySem.Spec PyProof.Rows L2 L3
def top (i : Nat) : Stmt := PySem.Challenge.pw_leatwork_k06_cut_trees.main.body.getD i (.Pass ⟨0, 0, 0, 0⟩)
def sub (i j : Nat) : Stmt := match top i with
  | .ClassDef _ _ _ body _ _ _ _ _ _ _ => body.getD j (.Pass ⟨0, 0, 0, 0⟩)
  | s => s
def s_parts_of : FnS := { d := ⟨("parts_of", none), "parts_of", "parts_of", defArgs (top 5), defBody (top 5), defScope (top 5), [], []⟩, N := ["node"], ps := ["node"], fn := f_parts_of }
def s_head_of : FnS := { d := ⟨("head_of", none), "head_of", "head_of", defArgs (top 6), defBody (top 6), defScope (top 6), [], []⟩, N := ["node"], ps := ["node"], fn := f_head_of }
def s_numbered : FnS := { d := ⟨("numbered", none), "numbered", "numbered", defArgs (top 7), defBody (top 7), defScope (top 7), [], []⟩, N := ["keys", "table", "key"], ps := ["keys"], fn := f_numbered }
def s_classes : FnS := { d := ⟨("classes", none), "classes", "classes", defArgs (top 8), defBody (top 8), defScope (top 8), [], []⟩, N := ["graph", "found", "count", "keys", "at", "node", "part"], ps := ["graph"], fn := f_classes }
def s_least : FnS := { d := ⟨("least", none), "least", "least", defArgs (top 9), defBody (top 9), defScope (top 9), [], []⟩, N := ["graph", "kinds", "order", "firsts", "waiting", "at", "found", "node", "part"], ps := ["graph"], fn := f_least }
def s_checked : FnS := { d := ⟨("checked", none), "checked", "checked", defArgs (top 10), defBody (top 10), defScope (top 10), [], []⟩, N := ["graph", "found"], ps := ["graph"], fn := f_checked }
def s_cut : FnS := { d := ⟨("cut", none), "cut", "cut", defArgs (top 11), defBody (top 11), defScope (top 11), [], []⟩, N := ["graph", "depth", "order", "rows", "found", "at", "node", "level", "numbers", "part", "key"], ps := ["graph", "depth"], fn := f_cut }
def s__law_stream : FnS := { d := ⟨("_law_stream", none), "_law_stream", "_law_stream", defArgs (top 13), defBody (top 13), defScope (top 13), [], []⟩, N := ["_law_script", "_law_mixed", "_law_cell"], ps := ["_law_script"], fn := f__law_stream }
def s__law_draw : FnS := { d := ⟨("_law_draw", none), "_law_draw", "_law_draw", defArgs (top 14), defBody (top 14), defScope (top 14), [], []⟩, N := ["_law_stream_here", "_law_many", "_law_value"], ps := ["_law_stream_here", "_law_many"], fn := f__law_draw }
def s__law_far : FnS := { d := ⟨("_law_far", none), "_law_far", "_law_far", defArgs (top 15), defBody (top 15), defScope (top 15), [], []⟩, N := ["_law_stream_here"], ps := ["_law_stream_here"], fn := f__law_far }
def s__law_atom : FnS := { d := ⟨("_law_atom", none), "_law_atom", "_law_atom", defArgs (top 16), defBody (top 16), defScope (top 16), [], []⟩, N := ["_law_stream_here", "_law_atom_here", "_law_k"], ps := ["_law_stream_here"], fn := f__law_atom }
def s__law_node : FnS := { d := ⟨("_law_node", none), "_law_node", "_law_node", defArgs (top 17), defBody (top 17), defScope (top 17), [], []⟩, N := ["_law_stream_here", "_law_many", "_law_pick", "_law_parts_here", "_law_k"], ps := ["_law_stream_here", "_law_many"], fn := f__law_node }
def s__law_graph : FnS := { d := ⟨("_law_graph", none), "_law_graph", "_law_graph", defArgs (top 18), defBody (top 18), defScope (top 18), [], []⟩, N := ["_law_stream_here", "_law_most", "_law_many", "_law_k"], ps := ["_law_stream_here", "_law_most"], fn := f__law_graph }
def s__law_parts : FnS := { d := ⟨("_law_parts", none), "_law_parts", "_law_parts", defArgs (top 19), defBody (top 19), defScope (top 19), [], []⟩, N := ["_law_node_here"], ps := ["_law_node_here"], fn := f__law_parts }
def s__law_kinds : FnS := { d := ⟨("_law_kinds", none), "_law_kinds", "_law_kinds", defArgs (top 20), defBody (top 20), defScope (top 20), [], []⟩, N := ["_law_graph_here", "_law_kinds_here", "_law_before", "_law_count", "_law_table", "_law_found", "_law_node_here", "_law_key", "_law_part"], ps := ["_law_graph_here"], fn := f__law_kinds }
def s__law_met : FnS := { d := ⟨("_law_met", none), "_law_met", "_law_met", defArgs (top 21), defBody (top 21), defScope (top 21), [], []⟩, N := ["_law_graph_here", "_law_kinds_here", "_law_at", "_law_found", "_law_part"], ps := ["_law_graph_here", "_law_kinds_here", "_law_at", "_law_found"], fn := f__law_met }
def s__law_least : FnS := { d := ⟨("_law_least", none), "_law_least", "_law_least", defArgs (top 22), defBody (top 22), defScope (top 22), [], []⟩, N := ["_law_graph_here", "_law_kinds_here", "_law_found", "_law_rows", "_law_kind", "_law_node_here", "_law_part"], ps := ["_law_graph_here"], fn := f__law_least }
def s__law_cut : FnS := { d := ⟨("_law_cut", none), "_law_cut", "_law_cut", defArgs (top 23), defBody (top 23), defScope (top 23), [], []⟩, N := ["_law_graph_here", "_law_depth", "_law_rows", "_law_many", "_law_level", "_law_node_here", "_law_part"], ps := ["_law_graph_here", "_law_depth"], fn := f__law_cut }
def s__law_given : FnS := { d := ⟨("_law_given", none), "_law_given", "_law_given", defArgs (top 24), defBody (top 24), defScope (top 24), [], []⟩, N := ["_law_told_here"], ps := ["_law_told_here"], fn := f__law_given }
def s__law_told : FnS := { d := ⟨("_law_told", none), "_law_told", "_law_told", defArgs (top 25), defBody (top 25), defScope (top 25), [], []⟩, N := ["_law_graph_here", "_law_depth", "e"], ps := ["_law_graph_here", "_law_depth"], fn := f__law_told }
def s__law_wide : FnS := { d := ⟨("_law_wide", none), "_law_wide", "_law_wide", defArgs (top 26), defBody (top 26), defScope (top 26), [], []⟩, N := ["_law_stream_here", "_law_rows", "_law_many", "_law_k", "_law_parts_here", "_law_j"], ps := ["_law_stream_here"], fn := f__law_wide }
def s_law : FnS := { d := ⟨("law", none), "law", "law", defArgs (top 27), defBody (top 27), defScope (top 27), [], []⟩, N := ["_law_script", "_law_stream_here", "_law_graph_here", "_law_depth", "_law_due", "_law_actual"], ps := ["_law_script"], fn := f_law }
def Tg_0 : List (PySem.Str × Nat) := [("MOST_NODES", 0)]
def Tg : List (PySem.Str × Nat) := Tg_0
def Tf_0 : List (PySem.Str × Nat) := [("parts_of", 0), ("head_of", 1), ("numbered", 2), ("classes", 3), ("least", 4), ("checked", 5), ("cut", 6), ("_law_stream", 7), ("_law_draw", 8), ("_law_far", 9), ("_law_atom", 10), ("_law_node", 11), ("_law_graph", 12), ("_law_parts", 13), ("_law_kinds", 14), ("_law_met", 15), ("_law_least", 16), ("_law_cut", 17), ("_law_given", 18), ("_law_told", 19)]
def Tf_1 : List (PySem.Str × Nat) := [("_law_wide", 20), ("law", 21)]
def Tf : List (PySem.Str × Nat) := Tf_0 ++ Tf_1
def gls_0 : List (PySem.Str × PV) := [("MOST_NODES", g_MOST_NODES)]
def gls : List (PySem.Str × PV) := gls_0
def T : GT := { kds := [], glob := Tg, fns := Tf, cls := [], tk := [(17, 12), (55, 12), (128, 21)], dw := [(152, 4)], ms := [], exc := [("LeatworkError", 0), ("TooMany", 1)] }
def L : LawD := { kd := [], T := T, tab := tab, fs := [s_parts_of, s_head_of, s_numbered, s_classes, s_least, s_checked, s_cut, s__law_stream, s__law_draw, s__law_far, s__law_atom, s__law_node, s__law_graph, s__law_parts, s__law_kinds, s__law_met, s__law_least, s__law_cut, s__law_given, s__law_told, s__law_wide, s_law], gl := gls, cn := ["LeatworkError", "TooMany"] }
theorem c_parts_of : compB T 60 ⟨s_parts_of.d.scope, s_parts_of.N, fun _ => true, true⟩ s_parts_of.d.body = some s_parts_of.fn.body := by kernel_rfl
theorem b_parts_of_ok : ∀ (kV doc pm : Value) (an : Option Addr) (cdv ct : Value) (us : List Value), us.length = s_parts_of.ps.length → bindArgs (PySem.W.fnOf s_parts_of.d.name s_parts_of.d.qual s_parts_of.d.params s_parts_of.d.body s_parts_of.d.scope .none kV doc pm an cdv ct) ⟨us, []⟩ = pure (s_parts_of.ps.zip us) :=
  fun _ _ _ _ _ _ us hl => match us, hl with | [_], _ => rfl
theorem c_head_of : compB T 60 ⟨s_head_of.d.scope, s_head_of.N, fun _ => true, true⟩ s_head_of.d.body = some s_head_of.fn.body := by kernel_rfl
theorem b_head_of_ok : ∀ (kV doc pm : Value) (an : Option Addr) (cdv ct : Value) (us : List Value), us.length = s_head_of.ps.length → bindArgs (PySem.W.fnOf s_head_of.d.name s_head_of.d.qual s_head_of.d.params s_head_of.d.body s_head_of.d.scope .none kV doc pm an cdv ct) ⟨us, []⟩ = pure (s_head_of.ps.zip us) :=
  fun _ _ _ _ _ _ us hl => match us, hl with | [_], _ => rfl
theorem c_numbered : compB T 60 ⟨s_numbered.d.scope, s_numbered.N, fun _ => true, true⟩ s_numbered.d.body = some s_numbered.fn.body := by kernel_rfl
theorem b_numbered_ok : ∀ (kV doc pm : Value) (an : Option Addr) (cdv ct : Value) (us : List Value), us.length = s_numbered.ps.length → bindArgs (PySem.W.fnOf s_numbered.d.name s_numbered.d.qual s_numbered.d.params s_numbered.d.body s_numbered.d.scope .none kV doc pm an cdv ct) ⟨us, []⟩ = pure (s_numbered.ps.zip us) :=
  fun _ _ _ _ _ _ us hl => match us, hl with | [_], _ => rfl
theorem c_classes : compB T 60 ⟨s_classes.d.scope, s_classes.N, fun _ => true, true⟩ s_classes.d.body = some s_classes.fn.body := by kernel_rfl
theorem b_classes_ok : ∀ (kV doc pm : Value) (an : Option Addr) (cdv ct : Value) (us : List Value), us.length = s_classes.ps.length → bindArgs (PySem.W.fnOf s_classes.d.name s_classes.d.qual s_classes.d.params s_classes.d.body s_classes.d.scope .none kV doc pm an cdv ct) ⟨us, []⟩ = pure (s_classes.ps.zip us) :=
  fun _ _ _ _ _ _ us hl => match us, hl with | [_], _ => rfl
theorem c_least : compB T 60 ⟨s_least.d.scope, s_least.N, fun _ => true, true⟩ s_least.d.body = some s_least.fn.body := by kernel_rfl
theorem b_least_ok : ∀ (kV doc pm : Value) (an : Option Addr) (cdv ct : Value) (us : List Value), us.length = s_least.ps.length → bindArgs (PySem.W.fnOf s_least.d.name s_least.d.qual s_least.d.params s_least.d.body s_least.d.scope .none kV doc pm an cdv ct) ⟨us, []⟩ = pure (s_least.ps.zip us) :=
  fun _ _ _ _ _ _ us hl => match us, hl with | [_], _ => rfl
theorem c_checked : compB T 60 ⟨s_checked.d.scope, s_checked.N, fun _ => true, true⟩ s_checked.d.body = some s_checked.fn.body := by kernel_rfl
theorem b_checked_ok : ∀ (kV doc pm : Value) (an : Option Addr) (cdv ct : Value) (us : List Value), us.length = s_checked.ps.length → bindArgs (PySem.W.fnOf s_checked.d.name s_checked.d.qual s_checked.d.params s_checked.d.body s_checked.d.scope .none kV doc pm an cdv ct) ⟨us, []⟩ = pure (s_checked.ps.zip us) :=
  fun _ _ _ _ _ _ us hl => match us, hl with | [_], _ => rfl
theorem c_cut : compB T 60 ⟨s_cut.d.scope, s_cut.N, fun _ => true, true⟩ s_cut.d.body = some s_cut.fn.body := by kernel_rfl
theorem b_cut_ok : ∀ (kV doc pm : Value) (an : Option Addr) (cdv ct : Value) (us : List Value), us.length = s_cut.ps.length → bindArgs (PySem.W.fnOf s_cut.d.name s_cut.d.qual s_cut.d.params s_cut.d.body s_cut.d.scope .none kV doc pm an cdv ct) ⟨us, []⟩ = pure (s_cut.ps.zip us) :=
  fun _ _ _ _ _ _ us hl => match us, hl with | [_, _], _ => rfl
theorem c__law_stream : compB T 60 ⟨s__law_stream.d.scope, s__law_stream.N, fun _ => true, true⟩ s__law_stream.d.body = some s__law_stream.fn.body := by kernel_rfl
theorem b__law_stream_ok : ∀ (kV doc pm : Value) (an : Option Addr) (cdv ct : Value) (us : List Value), us.length = s__law_stream.ps.length → bindArgs (PySem.W.fnOf s__law_stream.d.name s__law_stream.d.qual s__law_stream.d.params s__law_stream.d.body s__law_stream.d.scope .none kV doc pm an cdv ct) ⟨us, []⟩ = pure (s__law_stream.ps.zip us) :=
  fun _ _ _ _ _ _ us hl => match us, hl with | [_], _ => rfl
theorem c__law_draw : compB T 60 ⟨s__law_draw.d.scope, s__law_draw.N, fun _ => true, true⟩ s__law_draw.d.body = some s__law_draw.fn.body := by kernel_rfl
theorem b__law_draw_ok : ∀ (kV doc pm : Value) (an : Option Addr) (cdv ct : Value) (us : List Value), us.length = s__law_draw.ps.length → bindArgs (PySem.W.fnOf s__law_draw.d.name s__law_draw.d.qual s__law_draw.d.params s__law_draw.d.body s__law_draw.d.scope .none kV doc pm an cdv ct) ⟨us, []⟩ = pure (s__law_draw.ps.zip us) :=
  fun _ _ _ _ _ _ us hl => match us, hl with | [_, _], _ => rfl
theorem c__law_far : compB T 60 ⟨s__law_far.d.scope, s__law_far.N, fun _ => true, true⟩ s__law_far.d.body = some s__law_far.fn.body := by kernel_rfl
theorem b__law_far_ok : ∀ (kV doc pm : Value) (an : Option Addr) (cdv ct : Value) (us : List Value), us.length = s__law_far.ps.length → bindArgs (PySem.W.fnOf s__law_far.d.name s__law_far.d.qual s__law_far.d.params s__law_far.d.body s__law_far.d.scope .none kV doc pm an cdv ct) ⟨us, []⟩ = pure (s__law_far.ps.zip us) :=
  fun _ _ _ _ _ _ us hl => match us, hl with | [_], _ => rfl
theorem c__law_atom : compB T 60 ⟨s__law_atom.d.scope, s__law_atom.N, fun _ => true, true⟩ s__law_atom.d.body = some s__law_atom.fn.body := by kernel_rfl
theorem b__law_atom_ok : ∀ (kV doc pm : Value) (an : Option Addr) (cdv ct : Value) (us : List Value), us.length = s__law_atom.ps.length → bindArgs (PySem.W.fnOf s__law_atom.d.name s__law_atom.d.qual s__law_atom.d.params s__law_atom.d.body s__law_atom.d.scope .none kV doc pm an cdv ct) ⟨us, []⟩ = pure (s__law_atom.ps.zip us) :=
  fun _ _ _ _ _ _ us hl => match us, hl with | [_], _ => rfl
theorem c__law_node : compB T 60 ⟨s__law_node.d.scope, s__law_node.N, fun _ => true, true⟩ s__law_node.d.body = some s__law_node.fn.body := by kernel_rfl
theorem b__law_node_ok : ∀ (kV doc pm : Value) (an : Option Addr) (cdv ct : Value) (us : List Value), us.length = s__law_node.ps.length → bindArgs (PySem.W.fnOf s__law_node.d.name s__law_node.d.qual s__law_node.d.params s__law_node.d.body s__law_node.d.scope .none kV doc pm an cdv ct) ⟨us, []⟩ = pure (s__law_node.ps.zip us) :=
  fun _ _ _ _ _ _ us hl => match us, hl with | [_, _], _ => rfl
theorem c__law_graph : compB T 60 ⟨s__law_graph.d.scope, s__law_graph.N, fun _ => true, true⟩ s__law_graph.d.body = some s__law_graph.fn.body := by kernel_rfl
theorem b__law_graph_ok : ∀ (kV doc pm : Value) (an : Option Addr) (cdv ct : Value) (us : List Value), us.length = s__law_graph.ps.length → bindArgs (PySem.W.fnOf s__law_graph.d.name s__law_graph.d.qual s__law_graph.d.params s__law_graph.d.body s__law_graph.d.scope .none kV doc pm an cdv ct) ⟨us, []⟩ = pure (s__law_graph.ps.zip us) :=
  fun _ _ _ _ _ _ us hl => match us, hl with | [_, _], _ => rfl
theorem c__law_parts : compB T 60 ⟨s__law_parts.d.scope, s__law_parts.N, fun _ => true, true⟩ s__law_parts.d.body = some s__law_parts.fn.body := by kernel_rfl
theorem b__law_parts_ok : ∀ (kV doc pm : Value) (an : Option Addr) (cdv ct : Value) (us : List Value), us.length = s__law_parts.ps.length → bindArgs (PySem.W.fnOf s__law_parts.d.name s__law_parts.d.qual s__law_parts.d.params s__law_parts.d.body s__law_parts.d.scope .none kV doc pm an cdv ct) ⟨us, []⟩ = pure (s__law_parts.ps.zip us) :=
  fun _ _ _ _ _ _ us hl => match us, hl with | [_], _ => rfl
theorem c__law_kinds : compB T 60 ⟨s__law_kinds.d.scope, s__law_kinds.N, fun _ => true, true⟩ s__law_kinds.d.body = some s__law_kinds.fn.body := by kernel_rfl
theorem b__law_kinds_ok : ∀ (kV doc pm : Value) (an : Option Addr) (cdv ct : Value) (us : List Value), us.length = s__law_kinds.ps.length → bindArgs (PySem.W.fnOf s__law_kinds.d.name s__law_kinds.d.qual s__law_kinds.d.params s__law_kinds.d.body s__law_kinds.d.scope .none kV doc pm an cdv ct) ⟨us, []⟩ = pure (s__law_kinds.ps.zip us) :=
  fun _ _ _ _ _ _ us hl => match us, hl with | [_], _ => rfl
theorem c__law_met : compB T 60 ⟨s__law_met.d.scope, s__law_met.N, fun _ => true, true⟩ s__law_met.d.body = some s__law_met.fn.body := by kernel_rfl
theorem b__law_met_ok : ∀ (kV doc pm : Value) (an : Option Addr) (cdv ct : Value) (us : List Value), us.length = s__law_met.ps.length → bindArgs (PySem.W.fnOf s__law_met.d.name s__law_met.d.qual s__law_met.d.params s__law_met.d.body s__law_met.d.scope .none kV doc pm an cdv ct) ⟨us, []⟩ = pure (s__law_met.ps.zip us) :=
  fun _ _ _ _ _ _ us hl => match us, hl with | [_, _, _, _], _ => rfl
theorem c__law_least : compB T 60 ⟨s__law_least.d.scope, s__law_least.N, fun _ => true, true⟩ s__law_least.d.body = some s__law_least.fn.body := by kernel_rfl
theorem b__law_least_ok : ∀ (kV doc pm : Value) (an : Option Addr) (cdv ct : Value) (us : List Value), us.length = s__law_least.ps.length → bindArgs (PySem.W.fnOf s__law_least.d.name s__law_least.d.qual s__law_least.d.params s__law_least.d.body s__law_least.d.scope .none kV doc pm an cdv ct) ⟨us, []⟩ = pure (s__law_least.ps.zip us) :=
  fun _ _ _ _ _ _ us hl => match us, hl with | [_], _ => rfl
theorem c__law_cut : compB T 60 ⟨s__law_cut.d.scope, s__law_cut.N, fun _ => true, true⟩ s__law_cut.d.body = some s__law_cut.fn.body := by kernel_rfl
theorem b__law_cut_ok : ∀ (kV doc pm : Value) (an : Option Addr) (cdv ct : Value) (us : List Value), us.length = s__law_cut.ps.length → bindArgs (PySem.W.fnOf s__law_cut.d.name s__law_cut.d.qual s__law_cut.d.params s__law_cut.d.body s__law_cut.d.scope .none kV doc pm an cdv ct) ⟨us, []⟩ = pure (s__law_cut.ps.zip us) :=
  fun _ _ _ _ _ _ us hl => match us, hl with | [_, _], _ => rfl
theorem c__law_given : compB T 60 ⟨s__law_given.d.scope, s__law_given.N, fun _ => true, true⟩ s__law_given.d.body = some s__law_given.fn.body := by kernel_rfl
theorem b__law_given_ok : ∀ (kV doc pm : Value) (an : Option Addr) (cdv ct : Value) (us : List Value), us.length = s__law_given.ps.length → bindArgs (PySem.W.fnOf s__law_given.d.name s__law_given.d.qual s__law_given.d.params s__law_given.d.body s__law_given.d.scope .none kV doc pm an cdv ct) ⟨us, []⟩ = pure (s__law_given.ps.zip us) :=
  fun _ _ _ _ _ _ us hl => match us, hl with | [_], _ => rfl
theorem c__law_told : compB T 60 ⟨s__law_told.d.scope, s__law_told.N, fun _ => true, true⟩ s__law_told.d.body = some s__law_told.fn.body := by kernel_rfl
theorem b__law_told_ok : ∀ (kV doc pm : Value) (an : Option Addr) (cdv ct : Value) (us : List Value), us.length = s__law_told.ps.length → bindArgs (PySem.W.fnOf s__law_told.d.name s__law_told.d.qual s__law_told.d.params s__law_told.d.body s__law_told.d.scope .none kV doc pm an cdv ct) ⟨us, []⟩ = pure (s__law_told.ps.zip us) :=
  fun _ _ _ _ _ _ us hl => match us, hl with | [_, _], _ => rfl
theorem c__law_wide : compB T 60 ⟨s__law_wide.d.scope, s__law_wide.N, fun _ => true, true⟩ s__law_wide.d.body = some s__law_wide.fn.body := by kernel_rfl
theorem b__law_wide_ok : ∀ (kV doc pm : Value) (an : Option Addr) (cdv ct : Value) (us : List Value), us.length = s__law_wide.ps.length → bindArgs (PySem.W.fnOf s__law_wide.d.name s__law_wide.d.qual s__law_wide.d.params s__law_wide.d.body s__law_wide.d.scope .none kV doc pm an cdv ct) ⟨us, []⟩ = pure (s__law_wide.ps.zip us) :=
  fun _ _ _ _ _ _ us hl => match us, hl with | [_], _ => rfl
theorem c_law : compB T 60 ⟨s_law.d.scope, s_law.N, fun _ => true, true⟩ s_law.d.body = some s_law.fn.body := by kernel_rfl
theorem b_law_ok : ∀ (kV doc pm : Value) (an : Option Addr) (cdv ct : Value) (us : List Value), us.length = s_law.ps.length → bindArgs (PySem.W.fnOf s_law.d.name s_law.d.qual s_law.d.params s_law.d.body s_law.d.scope .none kV doc pm an cdv ct) ⟨us, []⟩ = pure (s_law.ps.zip us) :=
  fun _ _ _ _ _ _ us hl => match us, hl with | [_], _ => rfl
theorem ok : L.Ok 60 where
  fns := by kernel_rfl
  glob := by kernel_rfl
  T_glob := by kernel_rfl
  cls := by kernel_rfl
  kds := by kernel_rfl
  T_kds := by kernel_rfl
  T_fns := fns_ok (by kernel_rfl)
  sc := sc_ok (by kernel_rfl)
  comp := allc c_parts_of (allc c_head_of (allc c_numbered (allc c_classes (allc c_least (allc c_checked (allc c_cut (allc c__law_stream (allc c__law_draw (allc c__law_far (allc c__law_atom (allc c__law_node (allc c__law_graph (allc c__law_parts (allc c__law_kinds (allc c__law_met (allc c__law_least (allc c__law_cut (allc c__law_given (allc c__law_told (allc c__law_wide (allc c_law (alln))))))))))))))))))))))
  binds := allc b_parts_of_ok (allc b_head_of_ok (allc b_numbered_ok (allc b_classes_ok (allc b_least_ok (allc b_checked_ok (allc b_cut_ok (allc b__law_stream_ok (allc b__law_draw_ok (allc b__law_far_ok (allc b__law_atom_ok (allc b__law_node_ok (allc b__law_graph_ok (allc b__law_parts_ok (allc b__law_kinds_ok (allc b__law_met_ok (allc b__law_least_ok (allc b__law_cut_ok (allc b__law_given_ok (allc b__law_told_ok (allc b__law_wide_ok (allc b_law_ok (alln))))))))))))))))))))))
def names_0 : List PySem.Str := ["__name__", "LeatworkError", "TooMany", "MOST_NODES", "parts_of", "head_of", "numbered", "classes", "least", "checked", "cut", "_law_stream", "_law_draw", "_law_far", "_law_atom", "_law_node", "_law_graph", "_law_parts", "_law_kinds", "_law_met"]
def names_1 : List PySem.Str := ["_law_least", "_law_cut", "_law_given", "_law_told", "_law_wide"]
def names : List PySem.Str := names_0 ++ names_1
abbrev R : PySem.W.OpenRow := PySem.W.OpenLaw.row PySem.Challenge.rw_leatwork_k06_cut_trees
abbrev qv : Program := PySem.W.view R.prog [27]
abbrev hk : PySem.W.Hook := He.hookX 5 L.fa (L.fs.map (·.d)) L.ts [] L.ex
def ob (s : PySem.W.SharedT) : He.AlX := He.obsX 5 L.fa (L.fs.map (·.d)) L.ts [] L.ex (HandSHeadRun.getT s)
theorem ob_eq (s : PySem.W.SharedT) : ob s = hk.obs s.abs := He.obsX_eq (HandSHeadRun.getT_eq s)
theorem run (w : World) : HandSHeadRun.RunEq R qv hk ob 40000 names w := by
  intro os
  kernel_rfl
end LD
open PySem PySem.W PySem.Calls PyProof.Rows L3
theorem PySem.Challenge.cw_leatwork_k06_cut_trees_holds : PySem.Challenge.rw_leatwork_k06_cut_trees.Holds := by
  w_on; o_law
  refine HandSHeadRun.head_any (r := OpenLaw.row PySem.Challenge.rw_leatwork_k06_cut_trees) (q := LD.qv) (H := LD.hk) (ob := LD.ob) (M := 40000) (loose := LD.names) (d := HandSHeadRun.topDef (OpenLaw.row PySem.Challenge.rw_leatwork_k06_cut_trees).prog 27) (kwd := []) LD.ob_eq
    (by kernel_rfl) (fun s => by kernel_rfl) LD.run (by kernel_rfl) (by kernel_rfl) (by kernel_rfl) (by rfl) (by first | assumption | decide +kernel) (by decide +kernel) ⟨rfl, rfl, rfl, rfl, rfl, by decide +kernel⟩ ?hw ?hc
  case hw => w_witness2
  case hc => exact law_walk (l := PySem.Challenge.rw_leatwork_k06_cut_trees) (L := LD.L) (dep := 60) (N := 40) (li := 21) (s := LD.s_law) (x := "_law_script") LD.ok rfl rfl rfl rfl (by kernel_rfl) (by kernel_rfl) ⟨rfl, by decide, by decide⟩ LD.law_val
