import PyProof.Rows.All
import PyProof.EqLayable
import PyProof.P3Statements
import HandS.List
import Wide.All
import OpenK.AllK
import Wide.FinOn
import HandS.ForMost
import HandS.ForExc
import HandS.TupAny
import HandS.TupMul
import HandS.IsInst
import HandS.Flow
import HandS.Style
import HandS.Walk
import HandS.CallSlots
import HandS.HeadHook4
import HandS.HeadEnd
import HandS.EndBits
import HandS.Head0
import HandS.Head1
import HandS.Head2
import PySem.Challenge.RW_leatwork_k01_is_graph
set_option Elab.async false
set_option linter.all false
set_option maxRecDepth 100000
set_option maxHeartbeats 0
/-! L3Core: values without addresses, a store of mutable objects, the syntax (slots resolved), the interpreter. -/
namespace L3
open PySem (PyData)

abbrev Sy := List Nat
/-- values: tuples are values; rol: a list that is only read (the script, a constant); ref n is the n-th mutable object -/
inductive PV where
  | non | bl (b : Bool) | int (i : Int) | str (x : Sy) | tup (xs : List PV) | rol (xs : List PV) | ref (n : Nat)
  deriving Inhabited
/-- mutable objects -/
inductive MO where
  | lst (xs : List PV) | dic (kvs : List (PV × PV)) | ins (c : Nat) (fs : List (Sy × PV))
  deriving Inhabited
abbrev Store := List MO
abbrev Env := List (Option PV)
structure Exn where
  c : Nat
  fs : List (Sy × PV)

inductive R (α : Type) where
  | ok (a : α) (S : Store)
  | exc (x : Exn) (S : Store)
  | stuck
def R.bind {α β : Type} : R α → (α → Store → R β) → R β
  | .ok a S, f => f a S
  | .exc x S, _ => .exc x S
  | .stuck, _ => .stuck

/-! ### syntax -/
inductive BOp where
  | add | sub | mul | fdiv | mod | pow
  deriving DecidableEq
inductive COp where
  | eq | ne | lt | le | gt | ge | is | isn | inn | nin
  deriving DecidableEq
inductive Ty where
  | int | bool | str | tuple | list
  deriving DecidableEq
inductive BF where
  | len | abs | int | list | tuple | all | any | min | max | str
  deriving DecidableEq

mutual
inductive CE where
  | var (i : Nat) | con (v : PV) | glo (k : Nat)
  | tup (es : CEs) | lst (es : CEs) | dct (ks vs : CEs)
  | bin (op : BOp) (a b : CE) | neg (a : CE) | nt (a : CE) | and (a b : CE) | or (a b : CE) | ife (c a b : CE)
  | cmp (op : COp) (a b : CE) | chn (o1 o2 : COp) (a b c : CE)
  | idx (a b : CE) | slc (a : CE) (lo hi : CO) | rev (a : CE)
  | fld (a : CE) (f : Sy)
  | cal (f : Nat) (es : CEs) | mth (o : CE) (m : Sy) (es : CEs) | mk (c : Nat) (es : CEs)
  | bf (b : BF) (es : CEs) | isi (a : CE) (t : Ty)
  | lc (vs : List Nat) (t : CT) (it : CI) (cond : CE) (elt : CE)
inductive CEs where
  | nil | cons (e : CE) (es : CEs)
inductive CO where
  | no | ex (e : CE)
inductive CT where
  | name (i : Nat) | tup (ts : CTs) | sub (o i : CE) | fld (o : CE) (f : Sy)
inductive CTs where
  | nil | cons (t : CT) (ts : CTs)
inductive CI where
  | seq (e : CE) | rng (a : CE) | rng2 (a b : CE) | enum (e : CE) | zip (a b : CE) | revd (e : CE)
end
mutual
inductive CS where
  | asg (t : CT) (e : CE) | aug (i : Nat) (op : BOp) (e : CE) | augs (o i : CE) (op : BOp) (e : CE) | augf (o : CE) (f : Sy) (op : BOp) (e : CE)
  | ex (e : CE) | ret (e : CE) | retn | pass | brk | cnt
  | ite (c : CE) (a b : CSs) | whl (c : CE) (b : CSs) | fr (t : CT) (it : CI) (b : CSs)
  | bad
inductive CSs where
  | nil | cons (s : CS) (ss : CSs)
end
structure Fn where
  np : Nat
  ns : Nat
  body : CSs
structure Tab where
  fns : List Fn
  glob : List PV := []
  /-- class, method's name, function -/
  meths : List (Nat × Sy × Nat) := []
  /-- class, its __init__ -/
  inits : List (Nat × Nat) := []
  /-- class, the attributes that its instances may have -/
  attrs : List (Nat × List Sy) := []
  /-- the turns that a loop may take -/
  F : Nat := 1000000
structure Cxi where
  call : Nat → List PV → Store → R PV
  init : Nat → List PV → Store → R PV
  T : Tab

/-! ### values -/
mutual
def PV.beq : PV → PV → Bool
  | .non, .non => true
  | .bl a, .bl b => a == b
  | .int a, .int b => a == b
  | .str a, .str b => a == b
  | .tup a, .tup b => PV.beqs a b
  | .rol a, .rol b => PV.beqs a b
  | .ref a, .ref b => a == b
  | _, _ => false
def PV.beqs : List PV → List PV → Bool
  | [], [] => true
  | a :: as, b :: bs => PV.beq a b && PV.beqs as bs
  | _, _ => false
end
mutual
theorem PV.beq_iff : ∀ {a b : PV}, PV.beq a b = true ↔ a = b
  | .non, b => by cases b <;> simp [PV.beq]
  | .bl _, b => by cases b <;> simp [PV.beq]
  | .int _, b => by cases b <;> simp [PV.beq]
  | .str _, b => by cases b <;> simp [PV.beq]
  | .tup xs, b => by
    cases b <;> simp [PV.beq]
    exact PV.beqs_iff
  | .rol xs, b => by
    cases b <;> simp [PV.beq]
    exact PV.beqs_iff
  | .ref _, b => by cases b <;> simp [PV.beq]
theorem PV.beqs_iff : ∀ {a b : List PV}, PV.beqs a b = true ↔ a = b
  | [], [] => by simp [PV.beqs]
  | [], _ :: _ => by simp [PV.beqs]
  | _ :: _, [] => by simp [PV.beqs]
  | a :: as, b :: bs => by
    simp only [PV.beqs, Bool.and_eq_true, List.cons.injEq]
    rw [PV.beq_iff (a := a) (b := b), PV.beqs_iff (a := as) (b := bs)]
end
instance : DecidableEq PV := fun a b => decidable_of_iff (PV.beq a b = true) PV.beq_iff

/-- sizes of lists, tuples, texts -/
abbrev nsz : Nat := 16777216

/-! == of data: by the library's own -/
mutual
def pD : PV → Option PyData
  | .non => some .none
  | .bl b => some (.bool b)
  | .int i => some (.int i)
  | .str x => if x.all (· < 1114112) then some (.str ⟨x.toArray⟩) else none
  | .tup xs => (pDs xs).map .tuple
  | .rol xs => (pDs xs).map .list
  | .ref _ => none
def pDs : List PV → Option (List PyData)
  | [] => some []
  | x :: xs => match pD x, pDs xs with
    | some d, some ds => some (d :: ds)
    | _, _ => none
end
def toD (S : Store) : PV → Option PyData
  | .ref p => match S[p]? with
    | some (.lst xs) => (pDs xs).map .list
    | _ => none
  | x => pD x
def pyEq (S : Store) (a b : PV) : Option Bool := match a, b with
  | .str x, .str y => some (x == y)
  | _, _ => match toD S a, toD S b with
    | some d, some e => if d.depth ≤ 60 ∧ e.depth ≤ 60 then some (PyData.eqv d e) else none
    | _, _ => none

def truthy (S : Store) : PV → Option Bool
  | .non => some false
  | .bl b => some b
  | .int i => some (i != 0)
  | .str x => if x.length ≤ nsz then some (!x.isEmpty) else none
  | .tup xs => some (!xs.isEmpty)
  | .rol xs => some (!xs.isEmpty)
  | .ref p => match S[p]? with
    | some (.lst xs) => some (!xs.isEmpty)
    | _ => none

/-! ### operators -/
abbrev W64 : Int := 18446744073709551616
def bop (op : BOp) (x y : PV) (S : Store) : R PV := match op, x, y with
  | .add, .int i, .int j => .ok (.int (i + j)) S
  | .add, .str a, .str b => if a.length + b.length ≤ nsz then .ok (.str (a ++ b)) S else .stuck
  | .add, .tup a, .tup b => if a.length + b.length ≤ nsz then .ok (.tup (a ++ b)) S else .stuck
  | .add, .ref p, .ref q => match S[p]?, S[q]? with
    | some (.lst a), some (.lst b) => if a.length + b.length ≤ nsz then .ok (.ref S.length) (S ++ [.lst (a ++ b)]) else .stuck
    | _, _ => .stuck
  | .sub, .int i, .int j => .ok (.int (i - j)) S
  | .mul, .int i, .int j => if (-W64 < i ∧ i < W64) ∨ (-W64 < j ∧ j < W64) then .ok (.int (i * j)) S else .stuck
  | .mul, .tup a, .int k => if a ≠ [] ∧ 2 ≤ k ∧ k ≤ 1000 ∧ a.length ≤ 1000 then .ok (.tup (List.replicate k.toNat a).flatten) S else .stuck
  | .mul, .ref p, .int k => match S[p]? with
    | some (.lst a) => if -(2 ^ 63) ≤ k ∧ k < 2 ^ 63 ∧ a.length * k.toNat ≤ nsz then .ok (.ref S.length) (S ++ [.lst (List.replicate k.toNat a).flatten]) else .stuck
    | _ => .stuck
  | .fdiv, .int i, .int j => if 0 < j ∧ j < 1073741824 then .ok (.int (i / j)) S else .stuck
  | .mod, .int i, .int j => if 0 < j then .ok (.int (i % j)) S else .stuck
  | .pow, .int i, .int j => if 0 ≤ j ∧ j ≤ 1000000 ∧ i.natAbs < 2 ^ 64 then .ok (.int (i ^ j.toNat)) S else .stuck
  | _, _, _ => .stuck

def ltSy : Sy → Sy → Bool
  | [], [] => false
  | [], _ :: _ => true
  | _ :: _, [] => false
  | a :: as, b :: bs => if a < b then true else if b < a then false else ltSy as bs
/-- what stands alone -/
def flat : PV → Bool
  | .non => true
  | .bl _ => true
  | .int _ => true
  | .str _ => true
  | _ => false
/-- == of flat values -/
def eqF : PV → PV → Bool
  | .non, .non => true
  | .bl a, .bl b => a == b
  | .bl a, .int b => (if a then 1 else 0) == b
  | .int a, .bl b => a == (if b then 1 else 0)
  | .int a, .int b => a == b
  | .str a, .str b => a == b
  | _, _ => false
/-- x in y: the sign c in a text (a text of another length in a text is not served); a flat value in a list, a tuple of flat ones -/
def isin (S : Store) (x y : PV) : Option Bool := match x, y with
  | .str [c], .str b => some (b.elem c)
  | x, .tup ys => if flat x && ys.all flat then some (ys.any fun y => eqF y x) else none
  | x, .rol ys => if flat x && ys.all flat then some (ys.any fun y => eqF y x) else none
  | x, .ref p => match S[p]? with
    | some (.lst ys) => if flat x && ys.all flat then some (ys.any fun y => eqF y x) else none
    | _ => none
  | _, _ => none
def cop (op : COp) (x y : PV) (S : Store) : Option Bool := match op with
  | .eq => pyEq S x y
  | .ne => (pyEq S x y).map (!·)
  | .lt => match x, y with
    | .int i, .int j => some (decide (i < j))
    | .str a, .str b => some (ltSy a b)
    | _, _ => none
  | .le => match x, y with
    | .int i, .int j => some (decide (i ≤ j))
    | _, _ => none
  | .gt => match x, y with
    | .int i, .int j => some (decide (j < i))
    | _, _ => none
  | .ge => match x, y with
    | .int i, .int j => some (decide (j ≤ i))
    | _, _ => none
  | .is => match x, y with
    | .bl a, .bl b => some (decide (a = b))
    | x, .non => some (match x with | .non => true | _ => false)
    | _, _ => none
  | .isn => match x, y with
    | .bl a, .bl b => some (!decide (a = b))
    | x, .non => some (match x with | .non => false | _ => true)
    | _, _ => none
  | .inn => isin S x y
  | .nin => (isin S x y).map (!·)

def ixN (n : Nat) (i : Int) : Option Nat := if 0 ≤ i then (if i < n then some i.toNat else none) else if -(n : Int) ≤ i then some (i + n).toNat else none
def atI {α : Type} (xs : List α) (i : Int) : Option α := (ixN xs.length i).bind fun j => xs[j]?
def getIx (x y : PV) (S : Store) : Option PV := match x, y with
  | .tup xs, .int i => atI xs i
  | .rol xs, .int i => atI xs i
  | .str xs, .int i => if xs.length ≤ nsz then (atI xs i).map fun c => .str [c] else none
  | .ref p, .int i => match S[p]? with
    | some (.lst xs) => atI xs i
    | _ => none
  | _, _ => none
/-- a slice's end as a place -/
def sIx (n d : Nat) : Option Int → Nat
  | none => d
  | some i => if i < 0 then (i + n).toNat else min i.toNat n
def cutL {α : Type} (xs : List α) (lo hi : Option Int) : List α := (xs.drop (sIx xs.length 0 lo)).take (sIx xs.length xs.length hi - sIx xs.length 0 lo)
def getSl (x : PV) (l h : Option Int) (S : Store) : R PV := match x with
  | .tup xs => .ok (.tup (cutL xs l h)) S
  | .ref p => match S[p]? with
    | some (.lst xs) => .ok (.ref S.length) (S ++ [.lst (cutL xs l h)])
    | _ => .stuck
  | _ => .stuck

def isTy (S : Store) (x : PV) (t : Ty) : Option Bool := match x with
  | .non => some false
  | .bl _ => some (match t with | .int => true | .bool => true | _ => false)
  | .int _ => some (match t with | .int => true | _ => false)
  | .str _ => some (match t with | .str => true | _ => false)
  | .tup _ => some (match t with | .tuple => true | _ => false)
  | .rol _ => some (match t with | .list => true | _ => false)
  | .ref p => match S[p]? with
    | some (.lst _) => some (match t with | .list => true | _ => false)
    | _ => none

def bools : List PV → Option (List Bool)
  | [] => some []
  | .bl b :: r => (bools r).map (b :: ·)
  | _ :: _ => none
def bfun (b : BF) (xs : List PV) (S : Store) : R PV := match b, xs with
  | .len, [.str x] => if x.length ≤ nsz then .ok (.int x.length) S else .stuck
  | .len, [.tup x] => .ok (.int x.length) S
  | .len, [.rol x] => .ok (.int x.length) S
  | .len, [.ref p] => match S[p]? with
    | some (.lst x) => .ok (.int x.length) S
    | _ => .stuck
  | .abs, [.int i] => .ok (.int (if i < 0 then -i else i)) S
  | .int, [.int i] => .ok (.int i) S
  | .int, [.bl b] => .ok (.int (if b then 1 else 0)) S
  | .list, [.tup x] => .ok (.ref S.length) (S ++ [.lst x])
  | .list, [.rol x] => .ok (.ref S.length) (S ++ [.lst x])
  | .list, [.ref p] => match S[p]? with
    | some (.lst x) => .ok (.ref S.length) (S ++ [.lst x])
    | _ => .stuck
  | .tuple, [.tup x] => .ok (.tup x) S
  | .tuple, [.rol x] => .ok (.tup x) S
  | .tuple, [.ref p] => match S[p]? with
    | some (.lst x) => .ok (.tup x) S
    | _ => .stuck
  | .all, [.ref p] => match S[p]? with
    | some (.lst x) => match bools x with
      | some bs => .ok (.bl (bs.all id)) S
      | none => .stuck
    | _ => .stuck
  | .any, [.ref p] => match S[p]? with
    | some (.lst x) => match bools x with
      | some bs => .ok (.bl (bs.any id)) S
      | none => .stuck
    | _ => .stuck
  | .max, [.int i, .int j] => .ok (.int (if j > i then j else i)) S
  | .min, [.int i, .int j] => .ok (.int (if j < i then j else i)) S
  | _, _ => .stuck

/-- methods of built-in types -/
def m_append : Sy := [97, 112, 112, 101, 110, 100]
def bmeth (m : Sy) (x : PV) (xs : List PV) (S : Store) : R PV := match x with
  | .ref p => match S[p]? with
    | some (.lst ys) => if m = m_append then (match xs with
        | [y] => if ys.length < nsz then .ok .non (S.set p (.lst (ys ++ [y]))) else .stuck
        | _ => .stuck) else .stuck
    | _ => .stuck
  | _ => .stuck

/-! ### iterators -/
inductive ItV where
  | seq (xs : List PV) | ref (p : Nat) | rng (lo : Int) (n : Nat) | str (xs : Sy)
/-- none: stuck; some none: at its end -/
def ItV.next (J : ItV) (i : Nat) (S : Store) : Option (Option PV) := match J with
  | .seq xs => some xs[i]?
  | .rng lo n => some (if i < n then some (.int (lo + i)) else none)
  | .str xs => some (xs[i]?.map fun c => .str [c])
  | .ref p => match S[p]? with
    | some (.lst xs) => some xs[i]?
    | _ => none
def seqIt (x : PV) (S : Store) : R ItV := match x with
  | .tup xs => .ok (.seq xs) S
  | .rol xs => .ok (.seq xs) S
  | .str xs => .ok (.str xs) S
  | .ref p => match S[p]? with
    | some (.lst _) => .ok (.ref p) S
    | _ => .stuck
  | _ => .stuck
abbrev W62 : Int := 4611686018427387904

/-- a run out of which nothing is raised -/
def R.nox {α : Type} : R α → R α
  | .ok a S => .ok a S
  | .exc _ _ => .stuck
  | .stuck => .stuck
/-- a comprehension's loop: body gives the item or none -/
def lcLoop (body : PV → Store → R (Option PV)) (J : ItV) : Nat → Nat → List PV → Store → R PV
  | 0, _, _, _ => .stuck
  | F + 1, i, acc, S => match J.next i S with
    | none => .stuck
    | some none => .ok (.ref S.length) (S ++ [.lst acc])
    | some (some x) => (body x S).nox.bind fun o S => match o with
      | none => lcLoop body J F (i + 1) acc S
      | some y => if acc.length < nsz then lcLoop body J F (i + 1) (acc ++ [y]) S else .stuck

def wipe (ρ : Env) : List Nat → Env
  | [] => ρ
  | v :: vs => (wipe ρ vs).set v none
def getV (ρ : Env) (i : Nat) (S : Store) : R PV := match ρ[i]? with
  | some (some v) => .ok v S
  | _ => .stuck
def ofO {α : Type} (o : Option α) (S : Store) : R α := match o with
  | some a => .ok a S
  | none => .stuck
def lookF (f : Sy) : List (Sy × PV) → Option PV
  | [] => none
  | (g, x) :: r => if f = g then some x else lookF f r
def putF (f : Sy) (v : PV) : List (Sy × PV) → List (Sy × PV)
  | [] => [(f, v)]
  | (g, x) :: r => if g = f then (g, v) :: r else (g, x) :: putF f v r
def isAttr (T : Tab) (c : Nat) (f : Sy) : Bool := T.attrs.any fun q => q.1 == c && q.2.elem f
def getFld (T : Tab) (x : PV) (f : Sy) (S : Store) : Option PV := match x with
  | .ref p => match S[p]? with
    | some (.ins c fs) => if isAttr T c f then lookF f fs else none
    | _ => none
  | _ => none
def setFld (T : Tab) (x : PV) (f : Sy) (v : PV) (S : Store) : Option Store := match x with
  | .ref p => match S[p]? with
    | some (.ins c fs) => if isAttr T c f && decide (fs.length < 1000) then some (S.set p (.ins c (putF f v fs))) else none
    | _ => none
  | _ => none
def setIx (x i v : PV) (S : Store) : Option Store := match x, i with
  | .ref p, .int k => match S[p]? with
    | some (.lst xs) => (ixN xs.length k).map fun j => S.set p (.lst (xs.set j v))
    | _ => none
  | _, _ => none
def methOf (T : Tab) (c : Nat) (m : Sy) : Option Nat := (T.meths.find? fun q => q.1 == c && decide (q.2.1 = m)).map (·.2.2)
def callM (cx : Cxi) (o : PV) (m : Sy) (xs : List PV) (S : Store) : R PV := match o with
  | .ref p => match S[p]? with
    | some (.ins c fs) => match methOf cx.T c m with
      | some f => if (lookF m fs).isNone then cx.call f (o :: xs) S else .stuck
      | none => .stuck
    | _ => bmeth m o xs S
  | _ => bmeth m o xs S
def makeC (cx : Cxi) (c : Nat) (xs : List PV) (S : Store) : R PV := match cx.T.inits.lookup c with
  | some f => (cx.init f (.ref S.length :: xs) (S ++ [.ins c []])).bind fun v S' => match v with
    | .non => .ok (.ref S.length) S'
    | _ => .stuck
  | none => .stuck

mutual
def evalE (cx : Cxi) : CE → Env → Store → R PV
  | .var i, ρ, S => getV ρ i S
  | .con v, _, S => .ok v S
  | .glo k, _, S => ofO cx.T.glob[k]? S
  | .tup es, ρ, S => (evalEs cx es ρ S).bind fun xs S => if xs.length ≤ nsz then .ok (.tup xs) S else .stuck
  | .lst es, ρ, S => (evalEs cx es ρ S).bind fun xs S => if xs.length ≤ nsz then .ok (.ref S.length) (S ++ [.lst xs]) else .stuck
  | .dct _ _, _, _ => .stuck
  | .bin op a b, ρ, S => (evalE cx a ρ S).bind fun x S => (evalE cx b ρ S).bind fun y S => bop op x y S
  | .neg a, ρ, S => (evalE cx a ρ S).bind fun x S => match x with
    | .int i => .ok (.int (-i)) S
    | _ => .stuck
  | .nt a, ρ, S => (evalE cx a ρ S).bind fun x S => (ofO (truthy S x) S).bind fun k S => .ok (.bl (!k)) S
  | .and a b, ρ, S => (evalE cx a ρ S).bind fun x S => (ofO (truthy S x) S).bind fun k S => if k then evalE cx b ρ S else .ok x S
  | .or a b, ρ, S => (evalE cx a ρ S).bind fun x S => (ofO (truthy S x) S).bind fun k S => if k then .ok x S else evalE cx b ρ S
  | .ife c a b, ρ, S => (evalE cx c ρ S).bind fun x S => (ofO (truthy S x) S).bind fun k S => if k then evalE cx a ρ S else evalE cx b ρ S
  | .cmp op a b, ρ, S => (evalE cx a ρ S).bind fun x S => (evalE cx b ρ S).bind fun y S => (ofO (cop op x y S) S).bind fun k S => .ok (.bl k) S
  | .chn o1 o2 a b c, ρ, S => (evalE cx a ρ S).bind fun x S => (evalE cx b ρ S).bind fun y S => (ofO (cop o1 x y S) S).bind fun k S =>
      if k then (evalE cx c ρ S).bind fun z S => (ofO (cop o2 y z S) S).bind fun k S => .ok (.bl k) S else .ok (.bl false) S
  | .idx a b, ρ, S => (evalE cx a ρ S).bind fun x S => (evalE cx b ρ S).bind fun y S => ofO (getIx x y S) S
  | .slc a lo hi, ρ, S => (evalE cx a ρ S).bind fun x S => (evalO cx lo ρ S).bind fun l S => (evalO cx hi ρ S).bind fun h S => getSl x l h S
  | .rev a, ρ, S => (evalE cx a ρ S).bind fun x S => match x with
    | .ref p => match S[p]? with
      | some (.lst xs) => .ok (.ref S.length) (S ++ [.lst xs.reverse])
      | _ => .stuck
    | .tup xs => .ok (.tup xs.reverse) S
    | _ => .stuck
  | .fld a f, ρ, S => (evalE cx a ρ S).bind fun x S => ofO (getFld cx.T x f S) S
  | .cal f es, ρ, S => (evalEs cx es ρ S).bind fun xs S => cx.call f xs S
  | .mth o m es, ρ, S => (evalE cx o ρ S).bind fun x S => (evalEs cx es ρ S).bind fun xs S => callM cx x m xs S
  | .mk c es, ρ, S => (evalEs cx es ρ S).bind fun xs S => makeC cx c xs S
  | .bf b es, ρ, S => (evalEs cx es ρ S).bind fun xs S => bfun b xs S
  | .isi a t, ρ, S => (evalE cx a ρ S).bind fun x S => (ofO (isTy S x t) S).bind fun k S => .ok (.bl k) S
  | .lc vs t it cond elt, ρ, S => (iterE cx it ρ S).bind fun J S => lcLoop (fun x S => (assignE cx t x (wipe ρ vs) S).bind fun ρ' S =>
      (evalE cx cond ρ' S).bind fun c S => (ofO (truthy S c) S).bind fun k S => if k then (evalE cx elt ρ' S).bind fun y S => .ok (some y) S else .ok none S) J cx.T.F 0 [] S
def evalO (cx : Cxi) : CO → Env → Store → R (Option Int)
  | .no, _, S => .ok none S
  | .ex e, ρ, S => (evalE cx e ρ S).bind fun x S => match x with
    | .int i => .ok (some i) S
    | _ => .stuck
def evalEs (cx : Cxi) : CEs → Env → Store → R (List PV)
  | .nil, _, S => .ok [] S
  | .cons e es, ρ, S => (evalE cx e ρ S).bind fun x S => (evalEs cx es ρ S).bind fun xs S => .ok (x :: xs) S
def assignE (cx : Cxi) : CT → PV → Env → Store → R Env
  | .name i, v, ρ, S => if i < ρ.length then .ok (ρ.set i (some v)) S else .stuck
  | .tup ts, v, ρ, S => match v with
    | .tup xs => assignEs cx ts xs ρ S
    | _ => .stuck
  | .sub o i, v, ρ, S => (evalE cx o ρ S).bind fun x S => (evalE cx i ρ S).bind fun y S => (ofO (setIx x y v S) S).bind fun S' _ => .ok ρ S'
  | .fld o f, v, ρ, S => (evalE cx o ρ S).bind fun x S => (ofO (setFld cx.T x f v S) S).bind fun S' _ => .ok ρ S'
def assignEs (cx : Cxi) : CTs → List PV → Env → Store → R Env
  | .nil, [], ρ, S => .ok ρ S
  | .cons t ts, x :: xs, ρ, S => (assignE cx t x ρ S).bind fun ρ S => assignEs cx ts xs ρ S
  | _, _, _, _ => .stuck
def iterE (cx : Cxi) : CI → Env → Store → R ItV
  | .seq e, ρ, S => (evalE cx e ρ S).bind fun x S => seqIt x S
  | .rng a, ρ, S => (evalE cx a ρ S).bind fun x S => match x with
    | .int j => if -W62 ≤ j ∧ j < W62 then .ok (.rng 0 j.toNat) S else .stuck
    | _ => .stuck
  | .rng2 a b, ρ, S => (evalE cx a ρ S).bind fun x S => (evalE cx b ρ S).bind fun y S => match x, y with
    | .int i, .int j => if -W62 ≤ i ∧ i < W62 ∧ -W62 ≤ j ∧ j < W62 then .ok (.rng i (j - i).toNat) S else .stuck
    | _, _ => .stuck
  | .enum _, _, _ => .stuck
  | .zip _ _, _, _ => .stuck
  | .revd _, _, _ => .stuck
end

/-! ### statements -/
inductive Fl where
  | nx (ρ : Env) | rt (v : PV) | bk (ρ : Env) | ct (ρ : Env)
inductive RS where
  | ok (f : Fl) (S : Store)
  | exc (x : Exn) (ρ : Env) (S : Store)
  | stuck
/-- an expression within a statement whose slots are ρ -/
def R.at {α : Type} (ρ : Env) : R α → (α → Store → RS) → RS
  | .ok a S, f => f a S
  | .exc x S, _ => .exc x ρ S
  | .stuck, _ => .stuck
def RS.bind : RS → (Fl → Store → RS) → RS
  | .ok a S, f => f a S
  | .exc x ρ S, _ => .exc x ρ S
  | .stuck, _ => .stuck
def whLoop (test : Env → Store → R Bool) (body : Env → Store → RS) : Nat → Env → Store → RS
  | 0, _, _ => .stuck
  | F + 1, ρ, S => (test ρ S).at ρ fun k S => if k then (body ρ S).bind fun fl S => (match fl with
      | .nx ρ => whLoop test body F ρ S
      | .ct ρ => whLoop test body F ρ S
      | .bk ρ => .ok (.nx ρ) S
      | .rt v => .ok (.rt v) S) else .ok (.nx ρ) S
def frLoop (asg : PV → Env → Store → R Env) (body : Env → Store → RS) (J : ItV) : Nat → Nat → Env → Store → RS
  | 0, _, _, _ => .stuck
  | F + 1, i, ρ, S => match J.next i S with
    | none => .stuck
    | some none => .ok (.nx ρ) S
    | some (some x) => (asg x ρ S).nox.at ρ fun ρ S => (body ρ S).bind fun fl S => match fl with
      | .nx ρ => frLoop asg body J F (i + 1) ρ S
      | .ct ρ => frLoop asg body J F (i + 1) ρ S
      | .bk ρ => .ok (.nx ρ) S
      | .rt v => .ok (.rt v) S
def testE (cx : Cxi) (c : CE) (ρ : Env) (S : Store) : R Bool := (evalE cx c ρ S).bind fun x S => ofO (truthy S x) S
mutual
def execS (cx : Cxi) : CS → Env → Store → RS
  | .asg t e, ρ, S => (evalE cx e ρ S).at ρ fun v S => (assignE cx t v ρ S).nox.at ρ fun ρ S => .ok (.nx ρ) S
  | .aug i op e, ρ, S => (getV ρ i S).at ρ fun x S => (evalE cx e ρ S).at ρ fun y S => match x, y, op with
    | .int _, .int _, .add => (bop op x y S).at ρ fun z S => .ok (.nx (ρ.set i (some z))) S
    | .int _, .int _, .sub => (bop op x y S).at ρ fun z S => .ok (.nx (ρ.set i (some z))) S
    | _, _, _ => .stuck
  | .augs _ _ _ _, _, _ => .stuck
  | .augf _ _ _ _, _, _ => .stuck
  | .ex e, ρ, S => (evalE cx e ρ S).at ρ fun _ S => .ok (.nx ρ) S
  | .ret e, ρ, S => (evalE cx e ρ S).at ρ fun v S => .ok (.rt v) S
  | .retn, _, S => .ok (.rt .non) S
  | .pass, ρ, S => .ok (.nx ρ) S
  | .brk, ρ, S => .ok (.bk ρ) S
  | .cnt, ρ, S => .ok (.ct ρ) S
  | .ite c a b, ρ, S => (testE cx c ρ S).at ρ fun k S => if k then execB cx a ρ S else execB cx b ρ S
  | .whl c b, ρ, S => whLoop (testE cx c) (execB cx b) cx.T.F ρ S
  | .fr t it b, ρ, S => (iterE cx it ρ S).at ρ fun J S => frLoop (assignE cx t) (execB cx b) J cx.T.F 0 ρ S
  | .bad, _, _ => .stuck
def execB (cx : Cxi) : CSs → Env → Store → RS
  | .nil, ρ, S => .ok (.nx ρ) S
  | .cons s ss, ρ, S => (execS cx s ρ S).bind fun fl S => match fl with
    | .nx ρ => execB cx ss ρ S
    | fl => .ok fl S
end
def startEnv (fn : Fn) (args : List PV) : Env := args.map some ++ List.replicate (fn.ns - args.length) none
/-- what a body hands back -/
def RS.ret : RS → R PV
  | .ok (.nx _) S => .ok .non S
  | .ok (.rt v) S => .ok v S
  | .ok _ _ => .stuck
  | .exc x _ S => .exc x S
  | .stuck => .stuck
abbrev CallT := Nat → List PV → Store → R PV
/-- a def of the table runs; call: what its calls are; init: what its makings' __init__ are -/
def runF (T : Tab) (call init : CallT) : CallT := fun f args S => match T.fns[f]? with
  | none => .stuck
  | some fn => if args.length = fn.np then (execB ⟨call, init, T⟩ fn.body (startEnv fn args) S).ret else .stuck
/-- one level below, this level -/
def callP (T : Tab) : Nat → CallT × CallT
  | 0 => (fun _ _ _ => .stuck, fun _ _ _ => .stuck)
  | n + 1 => ((callP T n).2, runF T (callP T n).2 (callP T n).1)
abbrev callF (T : Tab) (n : Nat) : CallT := (callP T n).2
abbrev cxF (T : Tab) (n : Nat) : Cxi := ⟨(callP T n).2, (callP T n).1, T⟩
theorem callF_succ (T : Tab) (n f : Nat) (args : List PV) (S : Store) : callF T (n + 1) f args S = match T.fns[f]? with
    | none => .stuck
    | some fn => if args.length = fn.np then (execB (cxF T n) fn.body (startEnv fn args) S).ret else .stuck := rfl
mutual
def CT.slots : CT → List Nat
  | .name i => [i]
  | .tup ts => CTs.slots ts
  | .sub _ _ => []
  | .fld _ _ => []
def CTs.slots : CTs → List Nat
  | .nil => []
  | .cons t ts => t.slots ++ ts.slots
end
end L3
set_option maxRecDepth 100000
/-! L3Rel: how the interpreter's values and store lie in HandS's abstract heap. -/
namespace L3
open PySem PySem.Spec PyProof.Rows L2

abbrev toStr (x : Sy) : Str := ⟨x.toArray⟩
/-- what the top has written: the written part, the classes' addresses, the exception classes' addresses -/
structure G where
  K : PySem.W.Frag
  cl : Nat → Addr
  fa : Nat → Addr
/-- a list that is only read -/
def SqC (K : PySem.W.Frag) (H : Hp) (a : Addr) (xs : List V) : Prop :=
  (∃ o, H a = some (.frz o (.lst xs))) ∨
    ∃ (o : Obj) (its : Array Value) (n : Nat), K.lookup a = some o ∧ o.cls = .type "list" ∧ o.dict = none ∧ o.data = .seq its n ∧ its.size ≤ sizeLine ∧ Vals xs its.toList
theorem SqC.l {K : PySem.W.Frag} {H : Hp} {a : Addr} {xs : List V} (h : SqC K H a xs) : SqL K H a xs := by
  rcases h with h | h
  · exact .inl (.inr h)
  · exact .inr h
mutual
def RV (K : PySem.W.Frag) (α : List Addr) (H : Hp) : PV → V → Prop
  | .non, v => v = .non
  | .bl b, v => v = .bl b
  | .int i, v => v = .int i
  | .str x, v => v = .str (toStr x)
  | .tup xs, v => ∃ a vs, v = .ref a ∧ SqT K H a vs ∧ RVs K α H xs vs
  | .rol xs, v => ∃ a vs, v = .ref a ∧ SqC K H a vs ∧ RVs K α H xs vs
  | .ref n, v => ∃ a, α[n]? = some a ∧ v = .ref a
def RVs (K : PySem.W.Frag) (α : List Addr) (H : Hp) : List PV → List V → Prop
  | [], vs => vs = []
  | x :: xs, vs => ∃ w ws, vs = w :: ws ∧ RV K α H x w ∧ RVs K α H xs ws
end
/-- behind: the old objects' addresses, new ones behind them; what is not of the store stays -/
structure Ext (α : List Addr) (H : Hp) (α' : List Addr) (H' : Hp) : Prop where
  pre : ∃ β, α' = α ++ β ∧ ∀ b ∈ β, H b = none
  keep : ∀ a o, H a = some o → a ∉ α → H' a = some o
  there : ∀ a o, H a = some o → ∃ o', H' a = some o'
  tups : ∀ b xs, H b = some (.tup xs) → H' b = some (.tup xs)
  frzs : ∀ b o u, H b = some (.frz o u) → H' b = some (.frz o u)
theorem Ext.refl (α : List Addr) (H : Hp) : Ext α H α H := ⟨⟨[], by simp, by simp⟩, fun _ _ h _ => h, fun _ _ h => ⟨_, h⟩, fun _ _ h => h, fun _ _ _ h => h⟩
theorem Ext.trans {α α1 α2 : List Addr} {H H1 H2 : Hp} (a : Ext α H α1 H1) (b : Ext α1 H1 α2 H2) : Ext α H α2 H2 := by
  obtain ⟨β, rfl, hβ⟩ := a.pre
  obtain ⟨γ, rfl, hγ⟩ := b.pre
  refine ⟨⟨β ++ γ, by simp, fun c hc => ?_⟩, fun c o h hc => ?_, fun c o h => ?_, fun c xs h => b.tups c xs (a.tups c xs h), fun c o u h => b.frzs c o u (a.frzs c o u h)⟩
  · rcases List.mem_append.mp hc with h | h
    · exact hβ c h
    · cases q : H c with
      | none => rfl
      | some o =>
        obtain ⟨o', q'⟩ := a.there c o q
        rw [hγ c h] at q'; cases q'
  · refine b.keep c o (a.keep c o h hc) fun hm => ?_
    rcases List.mem_append.mp hm with h1 | h1
    · exact hc h1
    · rw [hβ c h1] at h; cases h
  · obtain ⟨o1, h1⟩ := a.there c o h
    exact b.there c o1 h1
theorem Ext.at {α α' : List Addr} {H H' : Hp} (e : Ext α H α' H') {n : Nat} {a : Addr} (h : α[n]? = some a) : α'[n]? = some a := by
  obtain ⟨β, rfl, _⟩ := e.pre
  rw [List.getElem?_append_left (List.getElem?_eq_some_iff.mp h).1]
  exact h
/-- what a value leans on -/
structure Kp (α : List Addr) (H : Hp) (α' : List Addr) (H' : Hp) : Prop where
  at_ : ∀ (n : Nat) (a : Addr), α[n]? = some a → α'[n]? = some a
  tups : ∀ b xs, H b = some (.tup xs) → H' b = some (.tup xs)
  frzs : ∀ b o u, H b = some (.frz o u) → H' b = some (.frz o u)
theorem Ext.kp {α α' : List Addr} {H H' : Hp} (e : Ext α H α' H') : Kp α H α' H' := ⟨fun _ _ h => e.at h, e.tups, e.frzs⟩
theorem Kp.sqT {K : PySem.W.Frag} {α α' : List Addr} {H H' : Hp} (e : Kp α H α' H') {a : Addr} {xs : List V} (h : SqT K H a xs) : SqT K H' a xs := by
  rcases h with (h | ⟨o, h⟩) | h
  · exact .inl (.inl (e.tups _ _ h))
  · exact .inl (.inr ⟨o, e.frzs _ _ _ h⟩)
  · exact .inr h
theorem Kp.sqC {K : PySem.W.Frag} {α α' : List Addr} {H H' : Hp} (e : Kp α H α' H') {a : Addr} {xs : List V} (h : SqC K H a xs) : SqC K H' a xs := by
  rcases h with ⟨o, h⟩ | h
  · exact .inl ⟨o, e.frzs _ _ _ h⟩
  · exact .inr h
theorem Ext.sqT {K : PySem.W.Frag} {α α' : List Addr} {H H' : Hp} (e : Ext α H α' H') {a : Addr} {xs : List V} (h : SqT K H a xs) : SqT K H' a xs := e.kp.sqT h
theorem Ext.sqC {K : PySem.W.Frag} {α α' : List Addr} {H H' : Hp} (e : Ext α H α' H') {a : Addr} {xs : List V} (h : SqC K H a xs) : SqC K H' a xs := e.kp.sqC h
mutual
theorem RV.kp {K : PySem.W.Frag} {α α' : List Addr} {H H' : Hp} (e : Kp α H α' H') : ∀ {x : PV} {v : V}, RV K α H x v → RV K α' H' x v
  | .non, _, h => h
  | .bl _, _, h => h
  | .int _, _, h => h
  | .str _, _, h => h
  | .tup xs, _, h => by
    obtain ⟨a, vs, h1, h2, h3⟩ := h
    exact ⟨a, vs, h1, e.sqT h2, RVs.kp e h3⟩
  | .rol xs, _, h => by
    obtain ⟨a, vs, h1, h2, h3⟩ := h
    exact ⟨a, vs, h1, e.sqC h2, RVs.kp e h3⟩
  | .ref n, _, h => by
    obtain ⟨a, h1, h2⟩ := h
    exact ⟨a, e.at_ _ _ h1, h2⟩
theorem RVs.kp {K : PySem.W.Frag} {α α' : List Addr} {H H' : Hp} (e : Kp α H α' H') : ∀ {xs : List PV} {vs : List V}, RVs K α H xs vs → RVs K α' H' xs vs
  | [], _, h => h
  | x :: xs, _, h => by
    obtain ⟨w, ws, h1, h2, h3⟩ := h
    exact ⟨w, ws, h1, RV.kp e h2, RVs.kp e h3⟩
end
theorem RV.ext {K : PySem.W.Frag} {α α' : List Addr} {H H' : Hp} {x : PV} {v : V} (h : RV K α H x v) (e : Ext α H α' H') : RV K α' H' x v := h.kp e.kp
theorem RVs.ext {K : PySem.W.Frag} {α α' : List Addr} {H H' : Hp} {x : List PV} {v : List V} (h : RVs K α H x v) (e : Ext α H α' H') : RVs K α' H' x v := h.kp e.kp
section
variable {K : PySem.W.Frag} {α α' : List Addr} {H H' : Hp}
theorem RVs.length : ∀ {xs : List PV} {vs : List V}, RVs K α H xs vs → xs.length = vs.length
  | [], _, h => by cases h; rfl
  | x :: xs, _, h => by
    obtain ⟨w, ws, rfl, _, h3⟩ := h
    simp [RVs.length h3]
theorem RVs.at : ∀ {xs : List PV} {vs : List V} {i : Nat} {x : PV}, RVs K α H xs vs → xs[i]? = some x → ∃ v, vs[i]? = some v ∧ RV K α H x v
  | [], _, _, _, _, e => by simp at e
  | x :: xs, _, 0, y, h, e => by
    obtain ⟨w, ws, rfl, h2, _⟩ := h
    simp at e
    subst e
    exact ⟨w, rfl, h2⟩
  | x :: xs, _, i + 1, y, h, e => by
    obtain ⟨w, ws, rfl, _, h3⟩ := h
    obtain ⟨v, h4, h5⟩ := RVs.at (i := i) h3 (by simpa using e)
    exact ⟨v, by simpa using h4, h5⟩
theorem RVs.at' : ∀ {xs : List PV} {vs : List V} {i : Nat} {v : V}, RVs K α H xs vs → vs[i]? = some v → ∃ x, xs[i]? = some x ∧ RV K α H x v := fun {xs vs i v} h e => by
  have hl := h.length
  have hi := (List.getElem?_eq_some_iff.mp e).1
  have hx : i < xs.length := by omega
  obtain ⟨w, h1, h2⟩ := h.at (i := i) (x := xs[i]) (by simp [hx])
  rw [e] at h1
  cases h1
  exact ⟨_, by simp [hx], h2⟩
theorem RVs.append : ∀ {xs ys : List PV} {vs ws : List V}, RVs K α H xs vs → RVs K α H ys ws → RVs K α H (xs ++ ys) (vs ++ ws)
  | [], ys, vs, ws, h, q => by cases h; exact q
  | x :: xs, ys, _, ws, h, q => by
    obtain ⟨w, ws', rfl, h2, h3⟩ := h
    exact ⟨w, ws' ++ ws, rfl, h2, RVs.append h3 q⟩
theorem RVs.drop : ∀ {xs : List PV} {vs : List V} (n : Nat), RVs K α H xs vs → RVs K α H (xs.drop n) (vs.drop n)
  | xs, vs, 0, h => h
  | [], _, n + 1, h => by cases h; exact rfl
  | x :: xs, _, n + 1, h => by
    obtain ⟨w, ws', rfl, h2, h3⟩ := h
    exact RVs.drop n h3
theorem RVs.take : ∀ {xs : List PV} {vs : List V} (n : Nat), RVs K α H xs vs → RVs K α H (xs.take n) (vs.take n)
  | xs, vs, 0, h => rfl
  | [], _, n + 1, h => by cases h; exact rfl
  | x :: xs, _, n + 1, h => by
    obtain ⟨w, ws', rfl, h2, h3⟩ := h
    exact ⟨w, ws'.take n, rfl, h2, RVs.take n h3⟩
theorem RVs.set : ∀ {xs : List PV} {vs : List V} (i : Nat) {x : PV} {v : V}, RV K α H x v → RVs K α H xs vs → RVs K α H (xs.set i x) (vs.set i v)
  | [], _, i, _, _, _, h => by cases h; exact rfl
  | y :: xs, _, 0, x, v, r, h => by
    obtain ⟨w, ws', rfl, h2, h3⟩ := h
    exact ⟨v, ws', rfl, r, h3⟩
  | y :: xs, _, i + 1, x, v, r, h => by
    obtain ⟨w, ws', rfl, h2, h3⟩ := h
    exact ⟨w, ws'.set i v, rfl, h2, RVs.set i r h3⟩
theorem RVs.rev {xs : List PV} {vs : List V} (h : RVs K α H xs vs) : RVs K α H xs.reverse vs.reverse := by
  induction xs generalizing vs with
  | nil => cases h; exact rfl
  | cons x xs ih =>
    obtain ⟨w, ws', rfl, h2, h3⟩ := h
    rw [List.reverse_cons, List.reverse_cons]
    exact RVs.append (ih h3) ⟨w, [], rfl, h2, rfl⟩
theorem RVs.rep {xs : List PV} {vs : List V} (h : RVs K α H xs vs) : ∀ k : Nat, RVs K α H (List.replicate k xs).flatten (List.replicate k vs).flatten
  | 0 => rfl
  | k + 1 => by
    rw [List.replicate_succ, List.replicate_succ, List.flatten_cons, List.flatten_cons]
    exact RVs.append h (RVs.rep h k)
theorem RVs.one {x : PV} {vs : List V} (h : RVs K α H [x] vs) : ∃ v, vs = [v] ∧ RV K α H x v := by
  obtain ⟨w, ws, rfl, h2, h3⟩ := h
  cases h3
  exact ⟨w, rfl, h2⟩
theorem RVs.two {x y : PV} {vs : List V} (h : RVs K α H [x, y] vs) : ∃ v w, vs = [v, w] ∧ RV K α H x v ∧ RV K α H y w := by
  obtain ⟨w, ws, rfl, h2, h3⟩ := h
  obtain ⟨v, rfl, h4⟩ := RVs.one h3
  exact ⟨w, v, rfl, h2, h4⟩
end

/-! ### the store -/
def RF (K : PySem.W.Frag) (α : List Addr) (H : Hp) : List (Sy × PV) → List (Str × V) → Prop
  | [], gs => gs = []
  | (f, x) :: fs, gs => ∃ w ws, gs = (toStr f, w) :: ws ∧ RV K α H x w ∧ RF K α H fs ws
/-- the keys of a dict: ints and texts; tuples of these -/
def keyOf : PV → Option Key
  | .int i => some (.inl i)
  | .str x => some (.inr (toStr x))
  | _ => none
def RKs : List PV → List Key → Prop
  | [], ks => ks = []
  | x :: xs, ks => ∃ k r, ks = k :: r ∧ keyOf x = some k ∧ RKs xs r
def RD (K : PySem.W.Frag) (α : List Addr) (H : Hp) : List (PV × PV) → List (Key × V) → Prop
  | [], kvs => kvs = []
  | (k, x) :: r, kvs => ∃ j w ws, kvs = (j, w) :: ws ∧ keyOf k = some j ∧ RV K α H x w ∧ RD K α H r ws
def RDT (K : PySem.W.Frag) (α : List Addr) (H : Hp) : List (PV × PV) → List (List Key × V) → Prop
  | [], kvs => kvs = []
  | (k, x) :: r, kvs => ∃ xs j w ws, k = .tup xs ∧ kvs = (j, w) :: ws ∧ RKs xs j ∧ RV K α H x w ∧ RDT K α H r ws
def MOk (g : G) (α : List Addr) (H : Hp) (a : Addr) : MO → Prop
  | .lst xs => ∃ vs, H a = some (.lst vs) ∧ RVs g.K α H xs vs
  | .dic kvs => (∃ ds, H a = some (.dK ds) ∧ RD g.K α H kvs ds) ∨ ∃ ds, H a = some (.dT ds) ∧ RDT g.K α H kvs ds
  | .ins c fs => ∃ dx gs, H a = some (.ins (g.cl c) dx gs) ∧ RF g.K α H fs gs
structure Rep (g : G) (α : List Addr) (S : Store) (H : Hp) : Prop where
  len : α.length = S.length
  nd : α.Nodup
  ok : ∀ (n : Nat) (o : MO), S[n]? = some o → ∃ a, α[n]? = some a ∧ MOk g α H a o
section
variable {g : G} {α α' : List Addr} {H H' : Hp} {S : Store} {a p : Addr}
theorem RF.kp {K : PySem.W.Frag} (e : Kp α H α' H') : ∀ {fs : List (Sy × PV)} {gs : List (Str × V)}, RF K α H fs gs → RF K α' H' fs gs
  | [], _, h => h
  | (f, x) :: fs, _, h => by
    obtain ⟨w, ws, h1, h2, h3⟩ := h
    exact ⟨w, ws, h1, h2.kp e, RF.kp e h3⟩
theorem RD.kp {K : PySem.W.Frag} (e : Kp α H α' H') : ∀ {fs : List (PV × PV)} {gs : List (Key × V)}, RD K α H fs gs → RD K α' H' fs gs
  | [], _, h => h
  | (f, x) :: fs, _, h => by
    obtain ⟨j, w, ws, h1, h2, h3, h4⟩ := h
    exact ⟨j, w, ws, h1, h2, h3.kp e, RD.kp e h4⟩
theorem RDT.kp {K : PySem.W.Frag} (e : Kp α H α' H') : ∀ {fs : List (PV × PV)} {gs : List (List Key × V)}, RDT K α H fs gs → RDT K α' H' fs gs
  | [], _, h => h
  | (f, x) :: fs, _, h => by
    obtain ⟨xs, j, w, ws, h0, h1, h2, h3, h4⟩ := h
    exact ⟨xs, j, w, ws, h0, h1, h2, h3.kp e, RDT.kp e h4⟩
/-- an object's description, where its own place is as it was -/
theorem MOk.kp (e : Kp α H α' H') (h : H' a = H a) : ∀ {o : MO}, MOk g α H a o → MOk g α' H' a o
  | .lst xs, ⟨vs, h1, h2⟩ => ⟨vs, h.trans h1, h2.kp e⟩
  | .dic kvs, .inl ⟨ds, h1, h2⟩ => .inl ⟨ds, h.trans h1, h2.kp e⟩
  | .dic kvs, .inr ⟨ds, h1, h2⟩ => .inr ⟨ds, h.trans h1, h2.kp e⟩
  | .ins c fs, ⟨dx, gs, h1, h2⟩ => ⟨dx, gs, h.trans h1, h2.kp e⟩
theorem MOk.ext {o : MO} (e : Ext α H α' H') (h : H' a = H a) (m : MOk g α H a o) : MOk g α' H' a o := m.kp e.kp h
/-- what lies at an object's place -/
def isM : HO → Bool
  | .lst _ => true
  | .dK _ => true
  | .dT _ => true
  | .ins _ _ _ => true
  | _ => false
theorem MOk.there : ∀ {o : MO}, MOk g α H a o → ∃ u, H a = some u ∧ isM u = true
  | .lst xs, ⟨vs, h1, h2⟩ => ⟨_, h1, rfl⟩
  | .dic kvs, .inl ⟨ds, h1, h2⟩ => ⟨_, h1, rfl⟩
  | .dic kvs, .inr ⟨ds, h1, h2⟩ => ⟨_, h1, rfl⟩
  | .ins c fs, ⟨dx, gs, h1, h2⟩ => ⟨_, h1, rfl⟩
theorem Rep.mem (r : Rep g α S H) (h : a ∈ α) : ∃ u, H a = some u ∧ isM u = true := by
  obtain ⟨n, hn, e⟩ := List.mem_iff_getElem.mp h
  have hS : n < S.length := by rw [← r.len]; exact hn
  obtain ⟨b, hb, q⟩ := r.ok n S[n] (by simp [hS])
  rw [List.getElem?_eq_getElem hn, e] at hb
  cases hb
  exact q.there
theorem Rep.at (r : Rep g α S H) {n : Nat} {o : MO} (h : S[n]? = some o) (ha : α[n]? = some a) : MOk g α H a o := by
  obtain ⟨b, hb, q⟩ := r.ok n o h
  rw [ha] at hb
  cases hb
  exact q
theorem Rep.out (r : Rep g α S H) (h : H a = none) : a ∉ α := fun m => by
  obtain ⟨u, q, _⟩ := r.mem m
  rw [h] at q; cases q
/-- a new thing that is not of the store -/
theorem Ext.new (hp : H p = none) (o : HO) : Ext α H α (upd H p o) := by
  have ne : ∀ b u, H b = some u → b ≠ p := fun b u h z => by rw [z, hp] at h; cases h
  exact ⟨⟨[], by simp, by simp⟩, fun b u h _ => by rw [upd_ne (ne b u h)]; exact h, fun b u h => ⟨u, by rw [upd_ne (ne b u h)]; exact h⟩, fun b u h => by rw [upd_ne (ne b _ h)]; exact h, fun b o u h => by rw [upd_ne (ne b _ h)]; exact h⟩
theorem Rep.kp (r : Rep g α S H) (e : Kp α H α H') (h : ∀ b ∈ α, H' b = H b) : Rep g α S H' :=
  ⟨r.len, r.nd, fun n o q => let ⟨b, hb, z⟩ := r.ok n o q; ⟨b, hb, z.kp e (h b (List.mem_of_getElem? hb))⟩⟩
theorem Rep.ext0 (r : Rep g α S H) (e : Ext α H α H') (h : ∀ b ∈ α, H' b = H b) : Rep g α S H' := r.kp e.kp h
theorem Rep.new (r : Rep g α S H) (hp : H p = none) (o : HO) : Rep g α S (upd H p o) :=
  r.ext0 (Ext.new hp o) fun b hb => upd_ne fun z => by
    subst z
    exact r.out hp hb
/-- a new object of the store -/
theorem Ext.push (r : Rep g α S H) (hp : H p = none) (o : HO) : Ext α H (α ++ [p]) (upd H p o) := by
  have e := Ext.new (α := α) hp o
  exact ⟨⟨[p], rfl, fun b hb => by simp at hb; subst hb; exact hp⟩, e.keep, e.there, e.tups, e.frzs⟩
theorem Rep.push (r : Rep g α S H) (hp : H p = none) {o : HO} {mo : MO} (h : MOk g (α ++ [p]) (upd H p o) p mo) : Rep g (α ++ [p]) (S ++ [mo]) (upd H p o) := by
  have e := Ext.push r hp o
  refine ⟨by simp [r.len], ?_, fun n q hn => ?_⟩
  · rw [List.nodup_append]
    refine ⟨r.nd, by simp, fun b hb c hc => ?_⟩
    simp at hc
    subst hc
    intro z
    subst z
    exact r.out hp hb
  · by_cases hlt : n < S.length
    · rw [List.getElem?_append_left hlt] at hn
      obtain ⟨b, hb, z⟩ := r.ok n q hn
      refine ⟨b, e.at hb, z.ext e (upd_ne fun y => ?_)⟩
      subst y
      exact r.out hp (List.mem_of_getElem? hb)
    · have hnl : n < (S ++ [mo]).length := (List.getElem?_eq_some_iff.mp hn).1
      have hn2 : n = S.length := by simp at hnl; omega
      subst hn2
      simp at hn
      subst hn
      exact ⟨p, by rw [← r.len]; simp, h⟩
/-- an object of the store changes -/
theorem Ext.set (r : Rep g α S H) (ha : a ∈ α) (o : HO) : Ext α H α (upd H a o) := by
  obtain ⟨u, q, m⟩ := r.mem ha
  refine ⟨⟨[], by simp, by simp⟩, fun b v h hb => ?_, fun b v h => ?_, fun b xs h => ?_, fun b w v h => ?_⟩
  · rw [upd_ne fun z => hb (by rw [z]; exact ha)]; exact h
  · by_cases z : b = a
    · subst z; exact ⟨o, upd_same⟩
    · exact ⟨v, by rw [upd_ne z]; exact h⟩
  · rw [upd_ne fun z => by subst z; rw [q] at h; cases h; cases m]; exact h
  · rw [upd_ne fun z => by subst z; rw [q] at h; cases h; cases m]; exact h
theorem Rep.set (r : Rep g α S H) {n : Nat} (ha : α[n]? = some a) {o : HO} {mo : MO} (h : MOk g α (upd H a o) a mo) : Rep g α (S.set n mo) (upd H a o) := by
  have hm := List.mem_of_getElem? ha
  have e := Ext.set r hm o
  refine ⟨by simp [r.len], r.nd, fun k q hk => ?_⟩
  by_cases hkn : k = n
  · subst hkn
    have hl : k < S.length := by
      have := (List.getElem?_eq_some_iff.mp hk).1
      simpa using this
    rw [List.getElem?_set_self hl] at hk
    cases hk
    exact ⟨a, ha, h⟩
  · rw [List.getElem?_set_ne (Ne.symm hkn)] at hk
    obtain ⟨b, hb, z⟩ := r.ok k q hk
    refine ⟨b, hb, z.ext e (upd_ne fun y => ?_)⟩
    subst y
    have h1 := (List.getElem?_eq_some_iff.mp ha)
    have h2 := (List.getElem?_eq_some_iff.mp hb)
    obtain ⟨l1, e1⟩ := h1
    obtain ⟨l2, e2⟩ := h2
    exact hkn ((List.getElem_inj r.nd).mp (e2.trans e1.symm))
end

/-! ### the slots -/
structure RE (g : G) (α : List Addr) (H : Hp) (ρ : Env) (σ : L2.St) : Prop where
  len : ρ.length = σ.length
  at_ : ∀ (i : Nat) (v : PV), ρ[i]? = some (some v) → ∃ w, σ[i]? = some (some w) ∧ RV g.K α H v w
section
variable {g : G} {α α' : List Addr} {H H' : Hp} {ρ : Env} {σ : L2.St}
theorem RE.kp (r : RE g α H ρ σ) (e : Kp α H α' H') : RE g α' H' ρ σ := ⟨r.len, fun i v h => let ⟨w, h1, h2⟩ := r.at_ i v h; ⟨w, h1, h2.kp e⟩⟩
theorem RE.ext (r : RE g α H ρ σ) (e : Ext α H α' H') : RE g α' H' ρ σ := r.kp e.kp
theorem RE.set (r : RE g α H ρ σ) {i : Nat} {x : PV} {w : V} (h : RV g.K α H x w) : RE g α H (ρ.set i (some x)) (σ.set i (some w)) := by
  refine ⟨by simp [r.len], fun j v hj => ?_⟩
  by_cases z : j = i
  · subst z
    have hl : j < ρ.length := by simpa using (List.getElem?_eq_some_iff.mp hj).1
    rw [List.getElem?_set_self hl] at hj
    cases hj
    exact ⟨w, by rw [List.getElem?_set_self (by rw [← r.len]; exact hl)], h⟩
  · rw [List.getElem?_set_ne (Ne.symm z)] at hj
    obtain ⟨w', h1, h2⟩ := r.at_ j v hj
    exact ⟨w', by rw [List.getElem?_set_ne (Ne.symm z)]; exact h1, h2⟩
theorem wipe_len (ρ : Env) : ∀ vs : List Nat, (L3.wipe ρ vs).length = ρ.length
  | [] => rfl
  | v :: vs => by unfold L3.wipe; rw [List.length_set, wipe_len ρ vs]
theorem RE.wipe (r : RE g α H ρ σ) : ∀ vs : List Nat, RE g α H (L3.wipe ρ vs) (L2.wipe σ vs)
  | [] => r
  | v :: vs => by
    have ih := RE.wipe r vs
    refine ⟨by rw [wipe_len, wipe_length]; exact r.len, fun j x hj => ?_⟩
    unfold L3.wipe at hj
    unfold L2.wipe
    by_cases z : j = v
    · subst z
      by_cases hl : j < (L3.wipe ρ vs).length
      · rw [List.getElem?_set_self hl] at hj
        cases hj
      · rw [List.getElem?_eq_none (by simpa using hl)] at hj
        cases hj
    · rw [List.getElem?_set_ne (Ne.symm z)] at hj ⊢
      exact ih.at_ j x hj
end

/-! ### what is asked of a run -/
/-- an exception: its class, its own dict -/
def RX (g : G) (x : Exn) (c : Value) (d : Option Addr) (α : List Addr) (H : Hp) : Prop :=
  c = .ref (g.cl x.c) ∧ ((x.fs = [] ∧ d = none) ∨ ∃ a gs, d = some a ∧ H a = some (.xd gs) ∧ RF g.K α H x.fs gs)
abbrev PP (β : Type) := List Addr → Hp → β → Store → Prop
def Pst (g : G) {β : Type} (α : List Addr) (H : Hp) (P : PP β) (b : β) (S : Store) : Prop := ∀ α' H', Ext α H α' H' → Rep g α' S H' → P α' H' b S
def Wp (g : G) {β : Type} (r : R β) (α : List Addr) (H : Hp) (P : PP β) (E : PP Exn) : Prop := match r with
  | .ok b S => Pst g α H P b S
  | .exc x S => Pst g α H E x S
  | .stuck => False
section
variable {g : G} {β γ : Type} {r : R β} {α α' : List Addr} {H H' : Hp} {P P' : PP β} {E E' : PP Exn}
theorem Pst.ext {b : β} {S : Store} (h : Pst g α H P b S) (e : Ext α H α' H') : Pst g α' H' P b S := fun α2 H2 e2 r2 => h α2 H2 (e.trans e2) r2
theorem Wp.ext (h : Wp g r α H P E) (e : Ext α H α' H') : Wp g r α' H' P E := by
  cases r with
  | ok b S => exact Pst.ext h e
  | exc x S => exact Pst.ext h e
  | stuck => exact h
theorem Wp.imp (h : Wp g r α H P E) (hp : ∀ α' H' b S, Ext α H α' H' → Rep g α' S H' → P α' H' b S → P' α' H' b S) (he : ∀ α' H' x S, Ext α H α' H' → Rep g α' S H' → E α' H' x S → E' α' H' x S) : Wp g r α H P' E' := by
  cases r with
  | ok b S => exact fun α' H' e q => hp α' H' b S e q (h α' H' e q)
  | exc x S => exact fun α' H' e q => he α' H' x S e q (h α' H' e q)
  | stuck => exact h
theorem Wp.imp1 (h : Wp g r α H P E) (hp : ∀ α' H' b S, Ext α H α' H' → Rep g α' S H' → P α' H' b S → P' α' H' b S) : Wp g r α H P' E := h.imp hp fun _ _ _ _ _ _ q => q
theorem Wp.bind {f : β → Store → R γ} {Q : PP γ} (h : Wp g (r.bind f) α H Q E) : Wp g r α H (fun α' H' b S => Wp g (f b S) α' H' Q E) E := by
  cases r with
  | ok b S => exact fun α' H' e _ => Wp.ext (show Wp g (f b S) α H Q E from h) e
  | exc x S => exact h
  | stuck => exact h
theorem Wp.ok {b : β} {S : Store} (h : Wp g (.ok b S) α H P E) (hr : Rep g α S H) : P α H b S := h α H (Ext.refl α H) hr
theorem Wp.okE {b : β} {S : Store} (h : Wp g (.ok b S) α H P E) (e : Ext α H α' H') (hr : Rep g α' S H') : P α' H' b S := h α' H' e hr
theorem Wp.ofO {o : Option β} {S : Store} (h : Wp g (ofO o S) α H P E) : ∃ b, o = some b ∧ Wp g (.ok b S) α H P E := by
  cases o with
  | none => exact h.elim
  | some b => exact ⟨b, rfl, h⟩
end
end L3
set_option maxRecDepth 100000
/-! L3Ops: each operator, built-in function and method keeps the interpreter's word. -/
namespace L3
open PySem PySem.Spec PyProof.Rows L2

/-- the value that is handed on -/
abbrev PV1 (g : G) (Q : VK) : PP PV := fun α H v _ => ∀ w, RV g.K α H v w → Q w H
def LR (g : G) (f : PV → PV → Store → R PV) : R2 := fun w1 w2 H Q => ∃ α S x y E, Rep g α S H ∧ RV g.K α H x w1 ∧ RV g.K α H y w2 ∧ Wp g (f x y S) α H (PV1 g Q) E
abbrev gx (X : Cx) (cl fa : Nat → Addr) : G := ⟨X.K, cl, fa⟩

theorem nsz_eq : nsz = sizeLine := sizeLine_eq.symm
theorem toStr_len (x : Sy) : (toStr x).length = x.length := by simp [Str.length]
theorem toStr_app (a b : Sy) : toStr a ++ toStr b = toStr (a ++ b) := by
  show Str.append _ _ = _
  simp [Str.append]
section
variable {X : Cx} {cl fa : Nat → Addr} {α : List Addr} {S : Store} {H : Hp} {E : PP Exn} {Q : VK}
/-- the result is a value of the same store -/
theorem Wp.same {v : PV} {w : V} (h : Wp (gx X cl fa) (.ok v S) α H (PV1 (gx X cl fa) Q) E) (hr : Rep (gx X cl fa) α S H) (r : RV X.K α H v w) : Q w H := h.ok hr w r
/-- .. a new tuple -/
theorem Wp.tup {xs : List PV} {vs : List V} (h : Wp (gx X cl fa) (.ok (.tup xs) S) α H (PV1 (gx X cl fa) Q) E) (hr : Rep (gx X cl fa) α S H) (r : RVs X.K α H xs vs) : ∀ p, H p = none → Q (.ref p) (upd H p (.tup vs)) := fun p hp =>
  h.okE (Ext.new hp _) (hr.new hp _) _ ⟨p, vs, rfl, SqT.of upd_same, r.ext (Ext.new hp _)⟩
/-- .. a new list -/
theorem Wp.lst {xs : List PV} {vs : List V} (h : Wp (gx X cl fa) (.ok (.ref S.length) (S ++ [.lst xs])) α H (PV1 (gx X cl fa) Q) E) (hr : Rep (gx X cl fa) α S H) (r : RVs X.K α H xs vs) : ∀ p, H p = none → Q (.ref p) (upd H p (.lst vs)) := fun p hp => by
  have e := Ext.push hr hp (.lst vs)
  exact h.okE e (hr.push hp ⟨vs, upd_same, r.ext e⟩) _ ⟨p, by rw [← hr.len]; simp, rfl⟩
theorem Rep.list (hr : Rep (gx X cl fa) α S H) {n : Nat} {xs : List PV} {v : V} (h : S[n]? = some (.lst xs)) (r : RV X.K α H (.ref n) v) : ∃ a vs, v = .ref a ∧ α[n]? = some a ∧ H a = some (.lst vs) ∧ RVs X.K α H xs vs := by
  obtain ⟨a, ha, rfl⟩ := r
  obtain ⟨vs, h1, h2⟩ := hr.at h ha
  exact ⟨a, vs, rfl, ha, h1, h2⟩

theorem o_add : OpR X (binaryOp .Add) (LR (gx X cl fa) (bop .add)) := by
  intro pins s σ H w1 w2 v u Q I rx ry ⟨α, S, x, y, E, hr, h1, h2, h⟩
  cases x <;> cases y <;> first
    | exact h.elim
    | skip
  · cases h1; cases h2
    exact op_add pins s σ H _ _ v u Q I rx ry ⟨_, _, rfl, rfl, h.same hr rfl⟩
  · cases h1; cases h2
    rename_i a b
    simp only [bop] at h
    split at h
    · rename_i hl
      refine op_add_str pins s σ H _ _ v u Q I rx ry ⟨_, _, rfl, rfl, by rw [toStr_len, toStr_len, ← nsz_eq]; exact hl, ?_⟩
      rw [toStr_app]
      exact h.same hr rfl
    · exact h.elim
  · obtain ⟨a, vs, rfl, s1, r1⟩ := h1
    obtain ⟨b, ws, rfl, s2, r2⟩ := h2
    rename_i xs ys
    simp only [bop] at h
    split at h
    · rename_i hl
      have l1 := r1.length
      have l2 := r2.length
      refine op_catA pins s σ H _ _ v u Q I rx ry ⟨a, b, vs, ws, rfl, rfl, s1, s2, by rw [← l1, ← l2, ← nsz_eq]; exact hl, fun e => ?_, fun _ e => ?_, fun _ _ => ?_⟩
      · subst e
        have : xs = [] := List.length_eq_zero_iff.mp l1
        subst this
        exact h.same hr ⟨b, ws, rfl, s2, r2⟩
      · subst e
        have : ys = [] := List.length_eq_zero_iff.mp l2
        subst this
        rw [List.append_nil] at h
        exact h.same hr ⟨a, vs, rfl, s1, r1⟩
      · exact h.tup hr (r1.append r2)
    · exact h.elim
  · rename_i p q
    simp only [bop] at h
    split at h
    · rename_i xs ys hp hq
      split at h
      · rename_i hl
        obtain ⟨a, vs, rfl, ha, e1, r1⟩ := hr.list hp h1
        obtain ⟨b, ws, rfl, hb, e2, r2⟩ := hr.list hq h2
        have l1 := r1.length
        have l2 := r2.length
        exact op_cat pins s σ H _ _ v u Q I rx ry ⟨a, b, vs, ws, rfl, rfl, e1, e2, by rw [← l1, ← l2, ← nsz_eq]; exact hl, h.lst hr (r1.append r2)⟩
      · exact h.elim
    · exact h.elim
theorem o_sub : OpR X (binaryOp .Sub) (LR (gx X cl fa) (bop .sub)) := by
  intro pins s σ H w1 w2 v u Q I rx ry ⟨α, S, x, y, E, hr, h1, h2, h⟩
  cases x <;> cases y <;> first
    | exact h.elim
    | skip
  cases h1; cases h2
  exact op_sub pins s σ H _ _ v u Q I rx ry ⟨_, _, rfl, rfl, h.same hr rfl⟩
theorem o_mul : OpR X (binaryOp .Mult) (LR (gx X cl fa) (bop .mul)) := by
  intro pins s σ H w1 w2 v u Q I rx ry ⟨α, S, x, y, E, hr, h1, h2, h⟩
  cases x <;> cases y <;> first
    | exact h.elim
    | skip
  · cases h1; cases h2
    rename_i i j
    simp only [bop] at h
    split at h
    · rename_i hl
      exact op_mul pins s σ H _ _ v u Q I rx ry ⟨_, _, rfl, rfl, hl, h.same hr rfl⟩
    · exact h.elim
  · obtain ⟨a, vs, rfl, s1, r1⟩ := h1
    cases h2
    rename_i xs k
    simp only [bop] at h
    split at h
    · rename_i hl
      obtain ⟨h0, k1, k2, k3⟩ := hl
      have l1 := r1.length
      refine op_repT pins s σ H _ _ v u Q I rx ry ⟨a, k, vs, rfl, rfl, s1, fun e => h0 ?_, k1, k2, by omega, h.tup hr (r1.rep _)⟩
      subst e
      exact List.length_eq_zero_iff.mp l1
    · exact h.elim
  · rename_i p k
    cases h2
    simp only [bop] at h
    split at h
    · rename_i xs hp
      split at h
      · rename_i hl
        obtain ⟨k1, k2, k3⟩ := hl
        obtain ⟨a, vs, rfl, ha, e1, r1⟩ := hr.list hp h1
        have l1 := r1.length
        exact op_rep pins s σ H _ _ v u Q I rx ry ⟨a, k, vs, rfl, rfl, e1, k1, k2, by rw [← l1, ← nsz_eq]; exact k3, h.lst hr (r1.rep _)⟩
      · exact h.elim
    · exact h.elim
theorem o_fdiv : OpR X (binaryOp .FloorDiv) (LR (gx X cl fa) (bop .fdiv)) := by
  intro pins s σ H w1 w2 v u Q I rx ry ⟨α, S, x, y, E, hr, h1, h2, h⟩
  cases x <;> cases y <;> first
    | exact h.elim
    | skip
  cases h1; cases h2
  simp only [bop] at h
  split at h
  · rename_i hl
    exact op_fdiv pins s σ H _ _ v u Q I rx ry ⟨_, _, rfl, rfl, hl, h.same hr rfl⟩
  · exact h.elim
theorem o_mod : OpR X (binaryOp .Mod) (LR (gx X cl fa) (bop .mod)) := by
  intro pins s σ H w1 w2 v u Q I rx ry ⟨α, S, x, y, E, hr, h1, h2, h⟩
  cases x <;> cases y <;> first
    | exact h.elim
    | skip
  cases h1; cases h2
  simp only [bop] at h
  split at h
  · rename_i hl
    exact op_mod pins s σ H _ _ v u Q I rx ry ⟨_, _, rfl, rfl, hl, h.same hr rfl⟩
  · exact h.elim
theorem o_pow : OpR X (binaryOp .Pow) (LR (gx X cl fa) (bop .pow)) := by
  intro pins s σ H w1 w2 v u Q I rx ry ⟨α, S, x, y, E, hr, h1, h2, h⟩
  cases x <;> cases y <;> first
    | exact h.elim
    | skip
  cases h1; cases h2
  simp only [bop] at h
  split at h
  · rename_i hl
    exact op_pow pins s σ H _ _ v u Q I rx ry ⟨_, _, rfl, rfl, hl, h.same hr rfl⟩
  · exact h.elim
def bopO : BOp → Operator
  | .add => .Add | .sub => .Sub | .mul => .Mult | .fdiv => .FloorDiv | .mod => .Mod | .pow => .Pow
theorem o_bop (op : BOp) : OpR X (binaryOp (bopO op)) (LR (gx X cl fa) (bop op)) := by
  cases op
  · exact o_add
  · exact o_sub
  · exact o_mul
  · exact o_fdiv
  · exact o_mod
  · exact o_pow

/-! ### truth -/
theorem tru_of (hr : Rep (gx X cl fa) α S H) {x : PV} {v : V} {k : Bool} (r : RV X.K α H x v) (h : truthy S x = some k) : TruV X.K v H k := by
  cases x with
  | non => cases r; cases h; exact rfl
  | bl b => cases r; cases h; exact rfl
  | int i => cases r; cases h; exact rfl
  | str y =>
    cases r
    simp only [truthy] at h
    split at h
    · rename_i hl
      cases h
      refine ⟨by rw [toStr_len, ← nsz_eq]; exact hl, ?_⟩
      rw [toStr_len]
      cases y <;> simp
      omega
    · cases h
  | tup xs =>
    obtain ⟨a, vs, rfl, s1, r1⟩ := r
    cases h
    refine .inr (.inl ⟨vs, s1, ?_⟩)
    have := r1.length
    cases xs <;> cases vs <;> simp_all
  | rol xs =>
    obtain ⟨a, vs, rfl, s1, r1⟩ := r
    cases h
    refine .inl ⟨vs, s1.l, ?_⟩
    have := r1.length
    cases xs <;> cases vs <;> simp_all
  | ref n =>
    simp only [truthy] at h
    split at h
    · rename_i xs hp
      cases h
      obtain ⟨a, vs, rfl, ha, e1, r1⟩ := hr.list hp r
      refine .inl ⟨vs, SqL.of e1, ?_⟩
      have := r1.length
      cases xs <;> cases vs <;> simp_all
    · cases h

/-! ### equality of data -/
mutual
theorem pD_ok : ∀ (x : PV) (v : V) (d : PyData), RV X.K α H x v → pD x = some d → Dp X.K H v d ∧ d.canLay0 = true
  | .non, v, d, r, h => by
    cases r
    simp only [pD, Option.some.injEq] at h
    subst h
    exact ⟨.non, rfl⟩
  | .bl b, v, d, r, h => by
    cases r
    simp only [pD, Option.some.injEq] at h
    subst h
    exact ⟨.bl b, rfl⟩
  | .int i, v, d, r, h => by
    cases r
    simp only [pD, Option.some.injEq] at h
    subst h
    exact ⟨.int i, rfl⟩
  | .str x, v, d, r, h => by
    cases r
    simp only [pD] at h
    split at h
    · rename_i hv
      simp only [Option.some.injEq] at h
      subst h
      exact ⟨.str _, by simpa [PyData.canLay0, PyData.strOk] using hv⟩
    · cases h
  | .tup xs, v, d, r, h => by
    obtain ⟨a, vs, rfl, s1, r1⟩ := r
    simp only [pD, Option.map_eq_some_iff] at h
    obtain ⟨ds, h1, rfl⟩ := h
    obtain ⟨q1, q2⟩ := pDs_ok xs vs ds r1 h1
    exact ⟨.tup s1 q1, by simpa [PyData.canLay0] using q2⟩
  | .rol xs, v, d, r, h => by
    obtain ⟨a, vs, rfl, s1, r1⟩ := r
    simp only [pD, Option.map_eq_some_iff] at h
    obtain ⟨ds, h1, rfl⟩ := h
    obtain ⟨q1, q2⟩ := pDs_ok xs vs ds r1 h1
    exact ⟨.lst s1.l q1, by simpa [PyData.canLay0] using q2⟩
  | .ref p, v, d, r, h => by simp [pD] at h
theorem pDs_ok : ∀ (xs : List PV) (vs : List V) (ds : List PyData), RVs X.K α H xs vs → pDs xs = some ds → DpAll X.K H vs ds ∧ PyData.canLayAll0 ds = true
  | [], vs, ds, r, h => by
    cases r
    simp only [pDs, Option.some.injEq] at h
    subst h
    exact ⟨.nil, rfl⟩
  | x :: xs, vs, ds, r, h => by
    obtain ⟨w, ws, rfl, r1, r2⟩ := r
    simp only [pDs] at h
    split at h
    · rename_i d es hd he
      cases h
      obtain ⟨p1, p2⟩ := pD_ok x w d r1 hd
      obtain ⟨q1, q2⟩ := pDs_ok xs ws es r2 he
      exact ⟨.cons p1 q1, by simp [PyData.canLayAll0, p2, q2]⟩
    · cases h
end
theorem toD_ok (hr : Rep (gx X cl fa) α S H) (x : PV) (v : V) (d : PyData) (r : RV X.K α H x v) (h : toD S x = some d) : Dp X.K H v d ∧ d.canLay0 = true := by
  cases x with
  | ref p =>
    simp only [toD] at h
    split at h
    · rename_i xs hp
      simp only [Option.map_eq_some_iff] at h
      obtain ⟨ds, h1, rfl⟩ := h
      obtain ⟨a, vs, rfl, ha, e1, r1⟩ := hr.list hp r
      obtain ⟨q1, q2⟩ := pDs_ok xs vs ds r1 h1
      exact ⟨.lst (SqL.of e1) q1, by simpa [PyData.canLay0] using q2⟩
    · cases h
  | _ => exact pD_ok _ v d r h
theorem shaped_of {n : Nat} {d : PyData} (h : n ≤ 64) (a : d.canLay0 = true) (b : d.depth ≤ n) : SeqAt.shaped d = true := by
  unfold SeqAt.shaped
  simp only [Bool.and_eq_true, decide_eq_true_eq]
  exact ⟨a, by omega⟩
theorem str_inj {a b : Sy} : (toStr a = toStr b) ↔ a = b := by
  constructor
  · intro h
    have := congrArg Str.cps h
    simpa using this
  · rintro rfl; rfl
theorem pyEq_cases {x y : PV} {k : Bool} (h : pyEq S x y = some k) : (∃ a b, x = .str a ∧ y = .str b ∧ k = (a == b)) ∨ ∃ d e, toD S x = some d ∧ toD S y = some e ∧ d.depth ≤ 60 ∧ e.depth ≤ 60 ∧ PyData.eqv d e = k := by
  unfold pyEq at h
  split at h
  · cases h
    exact .inl ⟨_, _, rfl, rfl, rfl⟩
  · split at h
    · rename_i d e hd he
      split at h
      · rename_i hl
        cases h
        exact .inr ⟨d, e, hd, he, hl.1, hl.2, rfl⟩
      · cases h
    · cases h
/-- a comparison's reading -/
def LC (g : G) (f : PV → PV → Store → Option Bool) : R2 := fun w1 w2 H Q => ∃ α S x y k, Rep g α S H ∧ RV g.K α H x w1 ∧ RV g.K α H y w2 ∧ f x y S = some k ∧ Q (.bl k) H
theorem dec_strS (a b : Sy) : decide (V.str (toStr a) = V.str (toStr b)) = (a == b) := by
  rw [Bool.eq_iff_iff]
  simp only [decide_eq_true_eq, V.str.injEq, beq_iff_eq]
  exact str_inj
theorem o_eq (hu : X.A.units + 64 < cLine) : OpR X (compareOp .Eq) (LC (gx X cl fa) (cop .eq)) := by
  intro pins s σ H w1 w2 v u Q I rx ry ⟨α, S, x, y, k, hr, h1, h2, h, q⟩
  rcases pyEq_cases (show pyEq S x y = some k from h) with ⟨a, b, rfl, rfl, rfl⟩ | ⟨d, e, hd, he, p3, q3, rfl⟩
  · cases h1; cases h2
    refine op_eq pins s σ H _ _ v u Q I rx ry ⟨rfl, ?_⟩
    rw [dec_strS]
    exact q
  · obtain ⟨p1, p2⟩ := toD_ok hr x w1 d h1 hd
    obtain ⟨q1, q2⟩ := toD_ok hr y w2 e h2 he
    exact op_eqD hu pins s σ H _ _ v u Q I rx ry ⟨d, e, p1, q1, shaped_of (by decide) p2 p3, shaped_of (by decide) q2 q3, q⟩
theorem o_ne (hu : X.A.units + 64 < cLine) : OpR X (compareOp .NotEq) (LC (gx X cl fa) (cop .ne)) := by
  intro pins s σ H w1 w2 v u Q I rx ry ⟨α, S, x, y, k, hr, h1, h2, h, q⟩
  have h : (pyEq S x y).map (!·) = some k := h
  simp only [Option.map_eq_some_iff] at h
  obtain ⟨k, h', rfl⟩ := h
  rcases pyEq_cases h' with ⟨a, b, rfl, rfl, rfl⟩ | ⟨d, e, hd, he, p3, q3, rfl⟩
  · cases h1; cases h2
    refine op_ne pins s σ H _ _ v u Q I rx ry ⟨rfl, ?_⟩
    rw [dec_strS]
    exact q
  · obtain ⟨p1, p2⟩ := toD_ok hr x w1 d h1 hd
    obtain ⟨q1, q2⟩ := toD_ok hr y w2 e h2 he
    exact op_neD hu pins s σ H _ _ v u Q I rx ry ⟨d, e, p1, q1, shaped_of (by decide) p2 p3, shaped_of (by decide) q2 q3, q⟩
theorem ltSy_iff : ∀ a b : Sy, ltSy a b = decide (a < b)
  | [], [] => by simp [ltSy]
  | [], _ :: _ => by simp [ltSy]
  | _ :: _, [] => by simp [ltSy]
  | a :: as, b :: bs => by
    unfold ltSy
    have ih := ltSy_iff as bs
    by_cases h : a < b
    · rw [if_pos h]
      symm
      simp only [decide_eq_true_eq]
      exact List.cons_lt_cons_iff.mpr (.inl h)
    · rw [if_neg h]
      by_cases h2 : b < a
      · rw [if_pos h2]
        symm
        simp only [decide_eq_false_iff_not]
        intro z
        rcases List.cons_lt_cons_iff.mp z with z | ⟨z, _⟩ <;> omega
      · rw [if_neg h2, ih]
        have e : a = b := by omega
        subst e
        simp [List.cons_lt_cons_iff]
theorem o_lt : OpR X (compareOp .Lt) (LC (gx X cl fa) (cop .lt)) := by
  intro pins s σ H w1 w2 v u Q I rx ry ⟨α, S, x, y, k, hr, h1, h2, h, q⟩
  cases x <;> cases y <;> first
    | (cases h; done)
    | (cases h1; cases h2; cases h
       exact op_lt pins s σ H _ _ v u Q I rx ry ⟨_, _, rfl, rfl, q⟩)
    | (cases h1; cases h2; cases h
       refine op_lt_str pins s σ H _ _ v u Q I rx ry ⟨_, _, rfl, rfl, ?_⟩
       rw [ltSy_iff] at q
       simpa using q)
theorem o_le : OpR X (compareOp .LtE) (LC (gx X cl fa) (cop .le)) := by
  intro pins s σ H w1 w2 v u Q I rx ry ⟨α, S, x, y, k, hr, h1, h2, h, q⟩
  cases x <;> cases y <;> first
    | (cases h; done)
    | (cases h1; cases h2; cases h
       exact op_le pins s σ H _ _ v u Q I rx ry ⟨_, _, rfl, rfl, q⟩)
theorem o_gt : OpR X (compareOp .Gt) (LC (gx X cl fa) (cop .gt)) := by
  intro pins s σ H w1 w2 v u Q I rx ry ⟨α, S, x, y, k, hr, h1, h2, h, q⟩
  cases x <;> cases y <;> first
    | (cases h; done)
    | (cases h1; cases h2; cases h
       exact op_gt pins s σ H _ _ v u Q I rx ry ⟨_, _, rfl, rfl, q⟩)
theorem o_ge : OpR X (compareOp .GtE) (LC (gx X cl fa) (cop .ge)) := by
  intro pins s σ H w1 w2 v u Q I rx ry ⟨α, S, x, y, k, hr, h1, h2, h, q⟩
  cases x <;> cases y <;> first
    | (cases h; done)
    | (cases h1; cases h2; cases h
       exact op_ge pins s σ H _ _ v u Q I rx ry ⟨_, _, rfl, rfl, q⟩)
def isNonP : PV → Bool
  | .non => true
  | _ => false
theorem rv_non {x : PV} {v : V} (r : RV X.K α H x v) : decide (v = .non) = isNonP x := by
  cases x <;> first
    | (cases r; rfl)
    | (obtain ⟨_, _, rfl, _⟩ := r; rfl)
    | (obtain ⟨_, _, rfl⟩ := r; rfl)
theorem is_cases {x y : PV} {k : Bool} (h : cop .is x y S = some k) : (∃ a b, x = .bl a ∧ y = .bl b ∧ k = decide (a = b)) ∨ (y = .non ∧ k = isNonP x) := by
  cases x <;> cases y <;> first
    | (cases h; done)
    | (cases h; exact .inl ⟨_, _, rfl, rfl, rfl⟩)
    | (cases h; exact .inr ⟨rfl, rfl⟩)
theorem isn_cases {x y : PV} {k : Bool} (h : cop .isn x y S = some k) : (∃ a b, x = .bl a ∧ y = .bl b ∧ k = !decide (a = b)) ∨ (y = .non ∧ k = !isNonP x) := by
  cases x <;> cases y <;> first
    | (cases h; done)
    | (cases h; exact .inl ⟨_, _, rfl, rfl, rfl⟩)
    | (cases h; exact .inr ⟨rfl, rfl⟩)
theorem o_is : OpR X (compareOp .Is) (LC (gx X cl fa) (cop .is)) := by
  intro pins s σ H w1 w2 v u Q I rx ry ⟨α, S, x, y, k, hr, h1, h2, h, q⟩
  rcases is_cases h with ⟨a, b, rfl, rfl, rfl⟩ | ⟨rfl, rfl⟩
  · cases h1; cases h2
    exact op_isBl pins s σ H _ _ v u Q I rx ry ⟨_, _, rfl, rfl, q⟩
  · cases h2
    refine op_isN pins s σ H _ _ v u Q I rx ry ⟨rfl, ?_⟩
    rw [rv_non (X := X) h1]
    exact q
theorem o_isn : OpR X (compareOp .IsNot) (LC (gx X cl fa) (cop .isn)) := by
  intro pins s σ H w1 w2 v u Q I rx ry ⟨α, S, x, y, k, hr, h1, h2, h, q⟩
  rcases isn_cases h with ⟨a, b, rfl, rfl, rfl⟩ | ⟨rfl, rfl⟩
  · cases h1; cases h2
    exact op_notBl pins s σ H _ _ v u Q I rx ry ⟨_, _, rfl, rfl, q⟩
  · cases h2
    refine op_notN pins s σ H _ _ v u Q I rx ry ⟨rfl, ?_⟩
    rw [rv_non (X := X) h1]
    exact q
end
end L3
set_option maxRecDepth 100000
/-! L3Ops2: in, places, slices, isinstance, built-in functions, methods, what is walked. -/
namespace L3
open PySem PySem.Spec PyProof.Rows L2
section
variable {X : Cx} {cl fa : Nat → Addr} {α : List Addr} {S : Store} {H : Hp} {E : PP Exn} {Q : VK}

theorem flat_of {x : PV} {v : V} (r : RV X.K α H x v) (h : flat x = true) : flatV v = true := by
  cases x <;> first
    | (cases r; rfl)
    | cases h
theorem eqF_of {x y : PV} {v w : V} (r : RV X.K α H x v) (q : RV X.K α H y w) (hx : flat x = true) (hy : flat y = true) : eqV w v = eqF y x := by
  cases x <;> cases y <;> first
    | (cases hx; done)
    | (cases hy; done)
    | (cases r; cases q; rfl)
    | (cases r; cases q
       show (toStr _ == toStr _) = (_ == _)
       rw [Bool.eq_iff_iff]
       simp only [beq_iff_eq]
       exact str_inj)
theorem any_of {x : PV} {v : V} (r : RV X.K α H x v) (hx : flat x = true) : ∀ {ys : List PV} {ws : List V}, RVs X.K α H ys ws → ys.all flat = true → ws.all flatV = true ∧ inV v ws = ys.any fun y => eqF y x
  | [], _, h, _ => by cases h; exact ⟨rfl, rfl⟩
  | y :: ys, _, h, ha => by
    obtain ⟨w, ws, rfl, h1, h2⟩ := h
    simp only [List.all_cons, Bool.and_eq_true] at ha
    obtain ⟨i1, i2⟩ := any_of r hx h2 ha.2
    refine ⟨by simp [flat_of h1 ha.1, i1], ?_⟩
    unfold inV at i2 ⊢
    simp only [List.any_cons]
    rw [i2, eqF_of r h1 hx ha.1]
theorem isin_cases {x y : PV} {k : Bool} (h : isin S x y = some k) : (∃ c b, x = .str [c] ∧ y = .str b ∧ k = b.elem c) ∨
    ∃ ys, (y = .tup ys ∨ y = .rol ys ∨ ∃ p, y = .ref p ∧ S[p]? = some (.lst ys)) ∧ flat x = true ∧ ys.all flat = true ∧ k = ys.any fun y => eqF y x := by
  unfold isin at h
  split at h
  · cases h
    exact .inl ⟨_, _, rfl, rfl, rfl⟩
  · split at h
    · rename_i hc
      cases h
      simp only [Bool.and_eq_true] at hc
      exact .inr ⟨_, .inl rfl, hc.1, hc.2, rfl⟩
    · cases h
  · split at h
    · rename_i hc
      cases h
      simp only [Bool.and_eq_true] at hc
      exact .inr ⟨_, .inr (.inl rfl), hc.1, hc.2, rfl⟩
    · cases h
  · split at h
    · rename_i hp
      split at h
      · rename_i hc
        cases h
        simp only [Bool.and_eq_true] at hc
        exact .inr ⟨_, .inr (.inr ⟨_, rfl, hp⟩), hc.1, hc.2, rfl⟩
      · cases h
    · cases h
  · cases h
theorem in_core {neg : Bool} {op : CmpOp} (hs : OpR X (compareOp op) (fun x y H Q => ∃ i j, x = .str i ∧ y = .str j ∧ Q (.bl (if neg then !(!(Builtin.Str.occurrences j i 0 j.length 1).isEmpty) else !(Builtin.Str.occurrences j i 0 j.length 1).isEmpty)) H))
    (hq : OpR X (compareOp op) (rIn X.K neg)) : OpR X (compareOp op) (LC (gx X cl fa) fun x y S => (isin S x y).map fun k => if neg then !k else k) := by
  intro pins s σ H w1 w2 v u Q I rx ry ⟨α, S, x, y, k, hr, h1, h2, h, q⟩
  simp only [Option.map_eq_some_iff] at h
  obtain ⟨k', h', rfl⟩ := h
  rcases isin_cases h' with ⟨c, b, rfl, rfl, rfl⟩ | ⟨ys, hy, fx, fy, rfl⟩
  · cases h1; cases h2
    refine hs pins s σ H _ _ v u Q I rx ry ⟨_, _, rfl, rfl, ?_⟩
    have e : (!(Builtin.Str.occurrences (toStr b) (toStr [c]) 0 (toStr b).length 1).isEmpty) = b.elem c := by
      rw [show toStr [c] = (⟨#[c]⟩ : Str) from rfl, PyProof.Rows.empty_one]
      simp
    rw [e]
    exact q
  · have main : ∀ p ws, w2 = .ref p → (SqL X.K H p ws ∨ SqT X.K H p ws) → RVs X.K α H ys ws → wpAny (model X.prog X.w) X.A (compareOp op v u) (EP X pins σ Q) X.xe s := fun p ws e hsq rs => by
      obtain ⟨a1, a2⟩ := any_of h1 fx rs fy
      refine hq pins s σ H _ _ v u Q I rx ry ⟨p, ws, e, hsq, flat_of h1 fx, a1, ?_⟩
      rw [a2]
      exact q
    rcases hy with rfl | rfl | ⟨p, rfl, hp⟩
    · obtain ⟨a, ws, e, s1, r1⟩ := h2
      exact main a ws e (.inr s1) r1
    · obtain ⟨a, ws, e, s1, r1⟩ := h2
      exact main a ws e (.inl s1.l) r1
    · obtain ⟨a, ws, e, _, e1, r1⟩ := hr.list (X := X) hp h2
      exact main a ws e (.inl (SqL.of e1)) r1
theorem o_in : OpR X (compareOp .In) (LC (gx X cl fa) (cop .inn)) := by
  intro pins s σ H w1 w2 v u Q I rx ry ⟨α, S, x, y, k, hr, h1, h2, h, q⟩
  exact in_core (X := X) (cl := cl) (fa := fa) (neg := false) op_in_str op_in_seq pins s σ H w1 w2 v u Q I rx ry ⟨α, S, x, y, k, hr, h1, h2, by
    have h : isin S x y = some k := h
    simp [h], q⟩
theorem o_nin : OpR X (compareOp .NotIn) (LC (gx X cl fa) (cop .nin)) := by
  intro pins s σ H w1 w2 v u Q I rx ry ⟨α, S, x, y, k, hr, h1, h2, h, q⟩
  exact in_core (X := X) (cl := cl) (fa := fa) (neg := true) op_notin_str op_notIn_seq pins s σ H w1 w2 v u Q I rx ry ⟨α, S, x, y, k, hr, h1, h2, h, q⟩
def copO : COp → CmpOp
  | .eq => .Eq | .ne => .NotEq | .lt => .Lt | .le => .LtE | .gt => .Gt | .ge => .GtE | .is => .Is | .isn => .IsNot | .inn => .In | .nin => .NotIn
theorem o_cop (hu : X.A.units + 64 < cLine) (op : COp) : OpR X (compareOp (copO op)) (LC (gx X cl fa) (cop op)) := by
  cases op
  · exact o_eq hu
  · exact o_ne hu
  · exact o_lt
  · exact o_le
  · exact o_gt
  · exact o_ge
  · exact o_is
  · exact o_isn
  · exact o_in
  · exact o_nin

/-! ### places -/
theorem ixN_same (n : Nat) (i : Int) : L3.ixN n i = L2.ixN n i := rfl
theorem atI_of {xs : List PV} {vs : List V} {i : Int} {x : PV} (r : RVs X.K α H xs vs) (h : L3.atI xs i = some x) : ∃ v, L2.atI vs i = some v ∧ RV X.K α H x v := by
  unfold L3.atI at h
  unfold L2.atI
  rw [← r.length]
  simp only [Option.bind_eq_some_iff] at h ⊢
  obtain ⟨j, h1, h2⟩ := h
  obtain ⟨v, h3, h4⟩ := r.at h2
  exact ⟨v, ⟨j, h1, h3⟩, h4⟩
/-- x[y] -/
def LI (g : G) : R2 := fun w1 w2 H Q => ∃ α S x y v, Rep g α S H ∧ RV g.K α H x w1 ∧ RV g.K α H y w2 ∧ getIx x y S = some v ∧ ∀ w, RV g.K α H v w → Q w H
theorem o_ix : IxR X (LI (gx X cl fa)) := by
  intro value slice pins s σ H w1 w2 v u Q I rx ry ⟨α, S, x, y, z, hr, h1, h2, h, q⟩ hs
  cases y <;> (try (cases x <;> first | (cases h; done) | (unfold getIx at h; split at h <;> cases h)))
  rename_i i
  cases h2
  cases x with
  | non => cases h
  | bl b => cases h
  | int j => cases h
  | str xs =>
    cases h1
    simp only [getIx] at h
    split at h
    · rename_i hl
      simp only [Option.map_eq_some_iff] at h
      obtain ⟨c, h3, rfl⟩ := h
      refine ix_seq value slice pins s σ H _ _ v u Q I rx ry (.inr (.inr ⟨_, i, c, rfl, rfl, by rw [toStr_len, ← nsz_eq]; exact hl, ?_, q _ rfl⟩)) hs
      have h3' : L2.atI xs i = some c := h3
      simpa using h3'
    · cases h
  | tup xs =>
    obtain ⟨a, vs, rfl, s1, r1⟩ := h1
    obtain ⟨w, h3, h4⟩ := atI_of (X := X) r1 h
    exact ix_seq value slice pins s σ H _ _ v u Q I rx ry (.inr (.inl ⟨a, vs, i, w, rfl, rfl, s1, h3, q _ h4⟩)) hs
  | rol xs =>
    obtain ⟨a, vs, rfl, s1, r1⟩ := h1
    obtain ⟨w, h3, h4⟩ := atI_of (X := X) r1 h
    exact ix_seq value slice pins s σ H _ _ v u Q I rx ry (.inl ⟨a, vs, i, w, rfl, rfl, s1.l, h3, q _ h4⟩) hs
  | ref p =>
    simp only [getIx] at h
    split at h
    · rename_i xs hp
      obtain ⟨a, vs, rfl, ha, e1, r1⟩ := hr.list (X := X) hp h1
      obtain ⟨w, h3, h4⟩ := atI_of (X := X) r1 h
      exact ix_seq value slice pins s σ H _ _ v u Q I rx ry (.inl ⟨a, vs, i, w, rfl, rfl, SqL.of e1, h3, q _ h4⟩) hs
    · cases h

/-! ### slices -/
theorem sIx_same (n d : Nat) (i : Option Int) : L3.sIx n d i = HT.sIx n d i := by cases i <;> rfl
theorem cut_of {xs : List PV} {vs : List V} (r : RVs X.K α H xs vs) (lo hi : Option Int) : RVs X.K α H (cutL xs lo hi) (cutV vs lo hi) := by
  unfold cutL cutV
  simp only [sIx_same, r.length]
  exact (r.drop _).take _
theorem cut_all {xs : List PV} {vs : List V} (r : RVs X.K α H xs vs) {lo hi : Option Int} (h : HT.sIx vs.length 0 lo = 0 ∧ HT.sIx vs.length vs.length hi = vs.length) : cutL xs lo hi = xs := by
  unfold cutL
  simp only [sIx_same, r.length, h.1, h.2]
  rw [List.drop_zero, Nat.sub_zero, ← r.length, List.take_length]
/-- x[lo:hi] by values -/
def LSl (g : G) : V → Option Int → Option Int → Hp → VK → Prop := fun w lo hi H Q => ∃ α S x E, Rep g α S H ∧ RV g.K α H x w ∧ Wp g (getSl x lo hi S) α H (PV1 g Q) E
theorem o_sl : SlR X (LSl (gx X cl fa)) := by
  intro pins s σ H w v vl vu lo hi sl Q I rx hs pl pu ⟨α, S, x, E, hr, h1, q⟩
  unfold getSl at q
  cases x with
  | tup xs =>
    obtain ⟨a, vs, rfl, s1, r1⟩ := h1
    refine sl_tupA pins s σ H _ v vl vu lo hi sl Q I rx hs pl pu ⟨a, vs, rfl, s1, fun z => ?_, fun _ => q.tup hr (cut_of r1 lo hi)⟩
    have q : Wp (gx X cl fa) (.ok (.tup (cutL xs lo hi)) S) α H (PV1 (gx X cl fa) Q) E := q
    rw [show cutL xs lo hi = xs from cut_all (X := X) r1 z] at q
    exact q.same hr ⟨a, vs, rfl, s1, r1⟩
  | ref p =>
    simp only at q
    split at q
    · rename_i xs hp
      obtain ⟨a, vs, rfl, ha, e1, r1⟩ := hr.list (X := X) hp h1
      exact sl_list pins s σ H _ v vl vu lo hi sl Q I rx hs pl pu ⟨a, vs, rfl, SqL.of e1, q.lst hr (cut_of r1 lo hi)⟩
    · exact q.elim
  | _ => exact q.elim

/-! ### isinstance -/
def tyN : Ty → String
  | .int => "int" | .bool => "bool" | .str => "str" | .tuple => "tuple" | .list => "list"
def tyOfP : PV → Option String
  | .non => some "NoneType" | .bl _ => some "bool" | .int _ => some "int" | .str _ => some "str" | .tup _ => some "tuple" | .rol _ => some "list" | .ref _ => some "list"
theorem kitB_all (t : Ty) : kitB "NoneType" (tyN t) = some false ∧ kitB "bool" (tyN t) = some (match t with | .int => true | .bool => true | _ => false) ∧ kitB "int" (tyN t) = some (match t with | .int => true | _ => false) ∧
    kitB "str" (tyN t) = some (match t with | .str => true | _ => false) ∧ kitB "tuple" (tyN t) = some (match t with | .tuple => true | _ => false) ∧ kitB "list" (tyN t) = some (match t with | .list => true | _ => false) := by
  cases t <;> exact ⟨by decide +kernel, by decide +kernel, by decide +kernel, by decide +kernel, by decide +kernel, by decide +kernel⟩
theorem sqT_ty {a : Addr} {vs : List V} (h : SqT X.K H a vs) : TyX X.K H (.ref a) (.type "tuple") := by
  rcases h with (h | ⟨o, h⟩) | ⟨o, its, n, h1, h2, _⟩
  · exact .base (.tup h)
  · exact .fTuple h
  · exact .kTuple h1 h2
theorem sqC_ty {a : Addr} {vs : List V} (h : SqC X.K H a vs) : TyX X.K H (.ref a) (.type "list") := by
  rcases h with ⟨o, h⟩ | ⟨o, its, n, h1, h2, _⟩
  · exact .base (.frz h)
  · exact .kList h1 h2
theorem isi_of (hr : Rep (gx X cl fa) α S H) {x : PV} {v : V} {t : Ty} {k : Bool} (r : RV X.K α H x v) (h : isTy S x t = some k) : ∃ n, TyX X.K H v (.type n) ∧ PySem.W.kitOne X.K (.type n) (.type (tyN t)) = some k := by
  obtain ⟨k1, k2, k3, k4, k5, k6⟩ := kitB_all t
  cases x with
  | non => cases r; cases h; exact ⟨_, .base .non, kit_ty k1⟩
  | bl b => cases r; cases h; exact ⟨_, .base (.bl b), kit_ty k2⟩
  | int i => cases r; cases h; exact ⟨_, .base (.int i), kit_ty k3⟩
  | str y => cases r; cases h; exact ⟨_, .base (.str _), kit_ty k4⟩
  | tup xs =>
    obtain ⟨a, vs, rfl, s1, r1⟩ := r
    cases h
    exact ⟨_, sqT_ty s1, kit_ty k5⟩
  | rol xs =>
    obtain ⟨a, vs, rfl, s1, r1⟩ := r
    cases h
    exact ⟨_, sqC_ty s1, kit_ty k6⟩
  | ref p =>
    simp only [isTy] at h
    split at h
    · rename_i xs hp
      cases h
      obtain ⟨a, vs, rfl, ha, e1, r1⟩ := hr.list (X := X) hp r
      exact ⟨_, .base (.lst e1), kit_ty k6⟩
    · cases h

/-! ### built-in functions -/
/-- a call of a built-in by values -/
def LB (g : G) (b : BF) : List V → Hp → VK → Prop := fun ws H Q => ∃ α S xs E, Rep g α S H ∧ RVs g.K α H xs ws ∧ Wp g (bfun b xs S) α H (PV1 g Q) E
theorem b_len : CallR X (.builtin "len") (LB (gx X cl fa) .len) := by
  intro pins s σ H ws us Q I r ⟨α, S, xs, E, hr, h1, h⟩
  unfold bfun at h
  split at h <;> (try exact h.elim) <;> (try (rename_i hb _; cases hb; done))
  all_goals first
    | (rename_i hb; cases hb; done)
    | skip
  · obtain ⟨w, rfl, h2⟩ := h1.one
    cases h2
    split at h
    · rename_i hl
      refine call_len_str pins s σ H _ us Q I r ⟨_, rfl, by rw [toStr_len, ← nsz_eq]; exact hl, ?_⟩
      rw [toStr_len]
      exact h.same hr rfl
    · exact h.elim
  · obtain ⟨w, rfl, a, vs, rfl, s1, r1⟩ := h1.one
    refine call_len_seq pins s σ H _ us Q I r ⟨a, vs, rfl, .inr s1, ?_⟩
    rw [← r1.length]
    exact h.same hr rfl
  · obtain ⟨w, rfl, a, vs, rfl, s1, r1⟩ := h1.one
    refine call_len_seq pins s σ H _ us Q I r ⟨a, vs, rfl, .inl s1.l, ?_⟩
    rw [← r1.length]
    exact h.same hr rfl
  · obtain ⟨w, rfl, h2⟩ := h1.one
    split at h
    · rename_i xs hp
      obtain ⟨a, vs, rfl, ha, e1, r1⟩ := hr.list (X := X) hp h2
      refine call_len_seq pins s σ H _ us Q I r ⟨a, vs, rfl, .inl (SqL.of e1), ?_⟩
      rw [← r1.length]
      exact h.same hr rfl
    · exact h.elim

theorem b_abs : CallR X (.builtin "abs") (LB (gx X cl fa) .abs) := by
  intro pins s σ H ws us Q I r ⟨α, S, xs, E, hr, h1, h⟩
  unfold bfun at h
  split at h <;> first
    | exact h.elim
    | (rename_i hb; cases hb; done)
    | skip
  obtain ⟨w, rfl, h2⟩ := h1.one
  cases h2
  exact call_abs pins s σ H _ us Q I r ⟨_, rfl, h.same hr rfl⟩
theorem b_int : CallR X (.type "int") (LB (gx X cl fa) .int) := by
  intro pins s σ H ws us Q I r ⟨α, S, xs, E, hr, h1, h⟩
  unfold bfun at h
  split at h <;> first
    | exact h.elim
    | (rename_i hb; cases hb; done)
    | skip
  · obtain ⟨w, rfl, h2⟩ := h1.one
    cases h2
    exact call_int1 pins s σ H _ us Q I r (.inl ⟨_, rfl, h.same hr rfl⟩)
  · obtain ⟨w, rfl, h2⟩ := h1.one
    cases h2
    exact call_int1 pins s σ H _ us Q I r (.inr ⟨_, rfl, h.same hr rfl⟩)
theorem b_list : CallR X (.type "list") (LB (gx X cl fa) .list) := by
  intro pins s σ H ws us Q I r ⟨α, S, xs, E, hr, h1, h⟩
  unfold bfun at h
  split at h <;> first
    | exact h.elim
    | (rename_i hb; cases hb; done)
    | skip
  · obtain ⟨w, rfl, a, vs, rfl, s1, r1⟩ := h1.one
    exact call_list_of pins s σ H _ us Q I r ⟨a, vs, rfl, .inr s1, h.lst hr r1⟩
  · obtain ⟨w, rfl, a, vs, rfl, s1, r1⟩ := h1.one
    exact call_list_of pins s σ H _ us Q I r ⟨a, vs, rfl, .inl s1.l, h.lst hr r1⟩
  · obtain ⟨w, rfl, h2⟩ := h1.one
    split at h
    · rename_i xs hp
      obtain ⟨a, vs, rfl, ha, e1, r1⟩ := hr.list (X := X) hp h2
      exact call_list_of pins s σ H _ us Q I r ⟨a, vs, rfl, .inl (SqL.of e1), h.lst hr r1⟩
    · exact h.elim
theorem b_tuple : CallR X (.type "tuple") (LB (gx X cl fa) .tuple) := by
  intro pins s σ H ws us Q I r ⟨α, S, xs, E, hr, h1, h⟩
  unfold bfun at h
  split at h <;> first
    | exact h.elim
    | (rename_i hb; cases hb; done)
    | skip
  · obtain ⟨w, rfl, a, vs, rfl, s1, r1⟩ := h1.one
    exact call_tuple_of pins s σ H _ us Q I r ⟨a, vs, rfl, .inr ⟨s1, h.same hr ⟨a, vs, rfl, s1, r1⟩⟩⟩
  · obtain ⟨w, rfl, a, vs, rfl, s1, r1⟩ := h1.one
    exact call_tuple_of pins s σ H _ us Q I r ⟨a, vs, rfl, .inl ⟨s1.l, h.tup hr r1⟩⟩
  · obtain ⟨w, rfl, h2⟩ := h1.one
    split at h
    · rename_i xs hp
      obtain ⟨a, vs, rfl, ha, e1, r1⟩ := hr.list (X := X) hp h2
      exact call_tuple_of pins s σ H _ us Q I r ⟨a, vs, rfl, .inl ⟨SqL.of e1, h.tup hr r1⟩⟩
    · exact h.elim
theorem bools_of : ∀ {xs : List PV} {vs : List V} {bs : List Bool}, RVs X.K α H xs vs → bools xs = some bs → vs = bs.map V.bl
  | [], _, _, h, e => by cases h; cases e; rfl
  | x :: xs, _, _, h, e => by
    obtain ⟨w, ws, rfl, h1, h2⟩ := h
    cases x <;> first
      | (cases e; done)
      | skip
    simp only [bools, Option.map_eq_some_iff] at e
    obtain ⟨bs, e1, rfl⟩ := e
    cases h1
    rw [bools_of h2 e1, List.map_cons]
theorem b_all (hc : X.calm = true) : CallR X (.builtin "all") (LB (gx X cl fa) .all) := by
  intro pins s σ H ws us Q I r ⟨α, S, xs, E, hr, h1, h⟩
  unfold bfun at h
  split at h <;> first
    | exact h.elim
    | (rename_i hb; cases hb; done)
    | skip
  obtain ⟨w, rfl, h2⟩ := h1.one
  split at h
  · rename_i xs hp
    split at h
    · rename_i bs hb
      obtain ⟨a, vs, rfl, ha, e1, r1⟩ := hr.list (X := X) hp h2
      exact cr_all hc pins s σ H _ us Q I r ⟨a, bs, rfl, by rw [← bools_of (X := X) r1 hb]; exact SqL.of e1, h.same hr rfl⟩
    · exact h.elim
  · exact h.elim
theorem b_any (hc : X.calm = true) : CallR X (.builtin "any") (LB (gx X cl fa) .any) := by
  intro pins s σ H ws us Q I r ⟨α, S, xs, E, hr, h1, h⟩
  unfold bfun at h
  split at h <;> first
    | exact h.elim
    | (rename_i hb; cases hb; done)
    | skip
  obtain ⟨w, rfl, h2⟩ := h1.one
  split at h
  · rename_i xs hp
    split at h
    · rename_i bs hb
      obtain ⟨a, vs, rfl, ha, e1, r1⟩ := hr.list (X := X) hp h2
      exact cr_any hc pins s σ H _ us Q I r ⟨a, bs, rfl, by rw [← bools_of (X := X) r1 hb]; exact SqL.of e1, h.same hr rfl⟩
    · exact h.elim
  · exact h.elim
theorem b_max (hc : X.calm = true) : CallR X (.builtin "max") (LB (gx X cl fa) .max) := by
  intro pins s σ H ws us Q I r ⟨α, S, xs, E, hr, h1, h⟩
  unfold bfun at h
  split at h <;> first
    | exact h.elim
    | (rename_i hb; cases hb; done)
    | skip
  obtain ⟨w, w', rfl, h2, h3⟩ := h1.two
  cases h2; cases h3
  exact call_max2 hc pins s σ H _ us Q I r ⟨_, _, rfl, h.same hr rfl⟩
theorem b_min (hc : X.calm = true) : CallR X (.builtin "min") (LB (gx X cl fa) .min) := by
  intro pins s σ H ws us Q I r ⟨α, S, xs, E, hr, h1, h⟩
  unfold bfun at h
  split at h <;> first
    | exact h.elim
    | (rename_i hb; cases hb; done)
    | skip
  obtain ⟨w, w', rfl, h2, h3⟩ := h1.two
  cases h2; cases h3
  exact call_min2 hc pins s σ H _ us Q I r ⟨_, _, rfl, h.same hr rfl⟩
/-- the built-in's name and what stands behind it -/
def bfN : BF → Str × Value
  | .len => ("len", .builtin "len") | .abs => ("abs", .builtin "abs") | .int => ("int", .type "int") | .list => ("list", .type "list") | .tuple => ("tuple", .type "tuple")
  | .all => ("all", .builtin "all") | .any => ("any", .builtin "any") | .min => ("min", .builtin "min") | .max => ("max", .builtin "max") | .str => ("str", .type "str")
theorem bf_boot (b : BF) : bootBuiltins (bfN b).1 = some (bfN b).2 := by cases b <;> decide +kernel
theorem bf_str (T : Value) : CallR X T (LB (gx X cl fa) .str) := by
  intro pins s σ H ws us Q I r ⟨α, S, xs, E, hr, h1, h⟩
  unfold bfun at h
  split at h <;> first
    | exact h.elim
    | (rename_i hb; cases hb; done)
theorem b_bf (hc : X.calm = true) (b : BF) : CallR X (bfN b).2 (LB (gx X cl fa) b) := by
  cases b
  · exact b_len
  · exact b_abs
  · exact b_int
  · exact b_list
  · exact b_tuple
  · exact b_all hc
  · exact b_any hc
  · exact b_min hc
  · exact b_max hc
  · exact bf_str _

/-! ### what is walked -/
/-- J walks as Jv says, whatever lies behind (α, H) -/
def JR (g : G) (Jv : ItV) (J : It) (α : List Addr) (H : Hp) : Prop := ∀ α' H' S i, Ext α H α' H' → Rep g α' S H' →
  (∀ x, Jv.next i S = some (some x) → J.go i H' ∧ ∀ w H2, J.yld i H' w H2 → Ext α' H' α' H2 ∧ Rep g α' S H2 ∧ RV g.K α' H2 x w) ∧ (Jv.next i S = some none → J.stop i H')
theorem jr_tup {xs : List PV} {vs : List V} {a : Addr} (s1 : SqT X.K H a vs) (r1 : RVs X.K α H xs vs) : JR (gx X cl fa) (.seq xs) (Itt X.K a) α H := by
  intro α' H' S i e hr
  have s2 := e.sqT s1
  have r2 := r1.ext e
  refine ⟨fun x hx => ?_, fun hx => ?_⟩
  · have hx : xs[i]? = some x := by simpa [ItV.next] using hx
    obtain ⟨v, h3, h4⟩ := r2.at hx
    refine ⟨⟨vs, v, s2, h3⟩, fun w H2 y => ?_⟩
    obtain ⟨rfl, y⟩ := y
    have := y vs s2
    rw [h3] at this
    cases this
    exact ⟨Ext.refl _ _, hr, h4⟩
  · have hx : xs[i]? = none := by simpa [ItV.next] using hx
    exact ⟨vs, s2, by rw [← r1.length]; exact List.getElem?_eq_none_iff.mp hx⟩
theorem jr_rol {xs : List PV} {vs : List V} {a : Addr} (s1 : SqC X.K H a vs) (r1 : RVs X.K α H xs vs) : JR (gx X cl fa) (.seq xs) (Itl X.K a) α H := by
  intro α' H' S i e hr
  have s2 := (e.sqC s1).l
  have r2 := r1.ext e
  refine ⟨fun x hx => ?_, fun hx => ?_⟩
  · have hx : xs[i]? = some x := by simpa [ItV.next] using hx
    obtain ⟨v, h3, h4⟩ := r2.at hx
    refine ⟨⟨vs, v, s2, h3⟩, fun w H2 y => ?_⟩
    obtain ⟨rfl, y⟩ := y
    have := y vs s2
    rw [h3] at this
    cases this
    exact ⟨Ext.refl _ _, hr, h4⟩
  · have hx : xs[i]? = none := by simpa [ItV.next] using hx
    exact ⟨vs, s2, by rw [← r1.length]; exact List.getElem?_eq_none_iff.mp hx⟩
theorem jr_ref {p : Nat} {a : Addr} (ha : α[p]? = some a) : JR (gx X cl fa) (.ref p) (Itl X.K a) α H := by
  intro α' H' S i e hr
  have ha' := e.at ha
  have key : ∀ o, ItV.next (.ref p) i S = some o → ∃ xs vs, S[p]? = some (.lst xs) ∧ H' a = some (.lst vs) ∧ RVs X.K α' H' xs vs ∧ o = xs[i]? := fun o h => by
    simp only [ItV.next] at h
    split at h
    · rename_i xs hp
      cases h
      obtain ⟨vs, h1, h2⟩ := hr.at hp ha'
      exact ⟨xs, vs, hp, h1, h2, rfl⟩
    · cases h
  refine ⟨fun x hx => ?_, fun hx => ?_⟩
  · obtain ⟨xs, vs, hp, h1, h2, h3⟩ := key _ hx
    obtain ⟨v, h4, h5⟩ := h2.at h3.symm
    refine ⟨⟨vs, v, SqL.of h1, h4⟩, fun w H2 y => ?_⟩
    obtain ⟨rfl, y⟩ := y
    have := y vs (SqL.of h1)
    rw [h4] at this
    cases this
    exact ⟨Ext.refl _ _, hr, h5⟩
  · obtain ⟨xs, vs, hp, h1, h2, h3⟩ := key _ hx
    exact ⟨vs, SqL.of h1, by rw [← h2.length]; exact List.getElem?_eq_none_iff.mp h3.symm⟩
theorem jr_rng {lo : Int} {n : Nat} : JR (gx X cl fa) (.rng lo n) (Itr lo n) α H := by
  intro α' H' S i e hr
  refine ⟨fun x hx => ?_, fun hx => ?_⟩
  · simp only [ItV.next, Option.some.injEq] at hx
    split at hx
    · rename_i hi
      cases hx
      refine ⟨hi, fun w H2 y => ?_⟩
      obtain ⟨rfl, rfl⟩ := y
      exact ⟨Ext.refl _ _, hr, rfl⟩
    · cases hx
  · simp only [ItV.next, Option.some.injEq] at hx
    split at hx
    · cases hx
    · rename_i hi
      exact Nat.le_of_not_lt hi
theorem jr_str {z : Sy} : JR (gx X cl fa) (.str z) (Its (toStr z)) α H := by
  intro α' H' S i e hr
  refine ⟨fun x hx => ?_, fun hx => ?_⟩
  · simp only [ItV.next, Option.some.injEq, Option.map_eq_some_iff] at hx
    obtain ⟨c, h1, rfl⟩ := hx
    have hl := (List.getElem?_eq_some_iff.mp h1).1
    refine ⟨by show i < (z.toArray).size; simpa using hl, fun w H2 y => ?_⟩
    obtain ⟨rfl, c', h2, rfl⟩ := y
    have h2 : z.toArray[i]? = some c' := h2
    rw [List.getElem?_toArray, h1] at h2
    cases h2
    exact ⟨Ext.refl _ _, hr, rfl⟩
  · simp only [ItV.next, Option.some.injEq, Option.map_eq_none_iff] at hx
    have := List.getElem?_eq_none_iff.mp hx
    show (z.toArray).size ≤ i
    simpa using this
end
end L3
set_option maxRecDepth 100000
/-! L3Cmp: from the row's syntax to the interpreter's. -/
namespace L3
open PySem PySem.Spec PyProof.Rows L2

/-- what the module's names stand for -/
structure GT where
  glob : List (Str × Nat) := []
  fns : List (Str × Nat) := []
  cls : List (Str × Nat) := []
/-- where a name is looked up -/
structure Sc where
  sc : Scope
  N : List Str
  fn : Str → Bool
def ixOfN (x : Str) : List Str → Option Nat
  | [] => none
  | y :: r => if y = x then some 0 else (ixOfN x r).map (· + 1)
theorem ixOfN_ok {x : Str} : ∀ {N : List Str} {i : Nat}, ixOfN x N = some i → N[i]? = some x
  | [], _, h => by cases h
  | y :: r, i, h => by
    unfold ixOfN at h
    split at h
    · rename_i e
      cases h
      simp [e]
    · simp only [Option.map_eq_some_iff] at h
      obtain ⟨j, h1, rfl⟩ := h
      simpa using ixOfN_ok h1
def visB (sc : Scope) (x : Str) : Bool := match sc.names.lookup x with
  | some .local => true
  | some .cell => true
  | some .free => true
  | _ => false
def glbB (sc : Scope) (x : Str) : Bool := match sc.names.lookup x with
  | some .globalImplicit => true
  | _ => false
/-- a name that may be stored here -/
def locB (c : Sc) (x : Str) : Bool := match c.sc.names.lookup x with
  | some .local => true
  | some .cell => c.fn x
  | _ => false
def plainN (x : Str) : Bool := !(x == ("__debug__" : Str)) && !(x == ("__classdict__" : Str))
def compVar (c : Sc) (x : Str) : Option Nat := if plainN x && visB c.sc x then ixOfN x c.N else none
def compName (T : GT) (c : Sc) (x : Str) : Option CE := match compVar c x with
  | some i => some (.var i)
  | none => if plainN x && glbB c.sc x then (T.glob.lookup x).map .glo else none
def compConst : Const → Option CE
  | .none => some (.con .non)
  | .bool b => some (.con (.bl b))
  | .int i => some (.con (.int i))
  | .str x => some (.con (.str x.cps.toList))
  | _ => none
def bopC : Operator → Option BOp
  | .Add => some .add | .Sub => some .sub | .Mult => some .mul | .FloorDiv => some .fdiv | .Mod => some .mod | .Pow => some .pow
  | _ => none
def copC : CmpOp → Option COp
  | .Eq => some .eq | .NotEq => some .ne | .Lt => some .lt | .LtE => some .le | .Gt => some .gt | .GtE => some .ge | .Is => some .is | .IsNot => some .isn | .In => some .inn | .NotIn => some .nin
def isSet : Expr → Bool
  | .Set .. => true
  | _ => false
def isSlice : Expr → Bool
  | .Slice .. => true
  | _ => false
def isStar : Expr → Bool
  | .Starred .. => true
  | _ => false
/-- no call f() that might be super() -/
def noSup : Expr → Bool
  | .Call (.Name _ _) [] [] _ => false
  | _ => true
def listM (f : Expr → Option CE) : List Expr → Option CEs
  | [] => some .nil
  | e :: es => if isStar e then none else match f e, listM f es with
    | some c, some cs => some (.cons c cs)
    | _, _ => none
def bfOf (x : Str) : Option BF :=
  if x = "len" then some .len else if x = "abs" then some .abs else if x = "int" then some .int else if x = "list" then some .list else if x = "tuple" then some .tuple
  else if x = "all" then some .all else if x = "any" then some .any else if x = "min" then some .min else if x = "max" then some .max else if x = "str" then some .str else none
def tyOf (x : Str) : Option Ty :=
  if x = "int" then some .int else if x = "bool" then some .bool else if x = "str" then some .str else if x = "tuple" then some .tuple else if x = "list" then some .list else none
/-- a comprehension's own names and their slots -/
def ownsOf (N : List Str) : List Expr → Option (List (Str × Nat))
  | [] => some []
  | .Name x _ :: es => match ixOfN x N, ownsOf N es with
    | some i, some r => some ((x, i) :: r)
    | _, _ => none
  | _ => none
def ownOf (N : List Str) : Expr → Option (List (Str × Nat))
  | .Name x _ => (ixOfN x N).map fun i => [(x, i)]
  | .Tuple es _ _ => ownsOf N es
  | _ => none
def innerSc (c : Sc) (scope : Scope) : Sc := ⟨relS scope c.sc, c.N, fun x => scope.names.lookup x == some .cell⟩
def optE (f : Expr → Option CE) : Option Expr → Option CO
  | none => some .no
  | some e => (f e).map .ex
def compIsi (c : Sc) (F : Expr → Option CE) : List Expr → Option CE
  | [a, .Name t _] => if isStar a || !(plainN t && glbB c.sc t) then none else (match F a, tyOf t with
    | some z, some ty => some (.isi z ty)
    | _, _ => none)
  | _ => none
def compBf (F : Expr → Option CE) (b : BF) : List Expr → Option CE
  | [] => none
  | e :: es => (listM F (e :: es)).map (.bf b)
def compCall (T : GT) (c : Sc) (F : Expr → Option CE) (x : Str) (args : List Expr) : Option CE :=
  if !(plainN x && glbB c.sc x) then none else if x = "isinstance" then compIsi c F args else match T.fns.lookup x with
    | some f => (listM F args).map (.cal f)
    | none => match bfOf x with
      | some b => compBf F b args
      | none => none
def compCmp (F : Expr → Option CE) (a : Expr) : List CmpOp → List Expr → Option CE
  | [op], [b] => if isSet b then none else (match F a, copC op, F b with
    | some x, some o, some y => some (.cmp o x y)
    | _, _, _ => none)
  | [o1, o2], [b, e] => if isSet e then none else (match F a, copC o1, F b, copC o2, F e with
    | some x, some p, some y, some q, some z => some (.chn p q x y z)
    | _, _, _, _, _ => none)
  | _, _ => none
def compSub (F : Expr → Option CE) (a : Expr) : Expr → Option CE
  | .Slice lo hi none _ => (match F a, optE F lo, optE F hi with
    | some x, some l, some h => some (.slc x l h)
    | _, _, _ => none)
  | b => if isSlice b then none else (match F a, F b with
    | some x, some y => some (.idx x y)
    | _, _ => none)
def compIfs (F : Expr → Option CE) : List Expr → Option CE
  | [] => some (.con (.bl true))
  | [f] => F f
  | _ => none
def compLc (c : Sc) (FI : Expr → Option CI) (FT : Sc → Expr → Option CT) (FE : Sc → Expr → Option CE) (elt : Expr) (scope : Scope) : List Comprehension → Option CE
  | [⟨tg, iter, ifs, 0⟩] => (match ownOf c.N tg with
    | none => none
    | some own => if !blkC c.N c.sc scope own || isSet iter then none else (match FI iter, FT (innerSc c scope) tg, FE (innerSc c scope) elt, compIfs (FE (innerSc c scope)) ifs with
      | some i, some t, some x, some k => some (.lc (own.map (·.2)) t i k x)
      | _, _, _, _ => none))
  | _ => none
def compRng (F : Expr → Option CE) : List Expr → Option CI
  | [a] => if isStar a then none else (F a).map .rng
  | [a, b] => if isStar a || isStar b then none else (match F a, F b with
    | some x, some y => some (.rng2 x y)
    | _, _ => none)
  | _ => none
mutual
def compE (T : GT) : Nat → Sc → Expr → Option CE
  | 0, _, _ => none
  | d + 1, c, e => match e with
    | .Name x _ => compName T c x
    | .Constant k _ _ => compConst k
    | .Tuple es _ _ => (listM (compE T d c) es).map .tup
    | .List es _ => (listM (compE T d c) es).map .lst
    | .BinOp a op b _ => match compE T d c a, bopC op, compE T d c b with
      | some x, some o, some y => some (.bin o x y)
      | _, _, _ => none
    | .UnaryOp .USub a _ => (compE T d c a).map .neg
    | .UnaryOp .Not a _ => (compE T d c a).map .nt
    | .BoolOp _ [a] _ => compE T d c a
    | .BoolOp .And (a :: b :: r) pos => match compE T d c a, compE T d c (.BoolOp .And (b :: r) pos) with
      | some x, some y => some (.and x y)
      | _, _ => none
    | .BoolOp .Or (a :: b :: r) pos => match compE T d c a, compE T d c (.BoolOp .Or (b :: r) pos) with
      | some x, some y => some (.or x y)
      | _, _ => none
    | .IfExp t a b _ => match compE T d c t, compE T d c a, compE T d c b with
      | some z, some x, some y => some (.ife z x y)
      | _, _, _ => none
    | .Compare a ops bs _ => compCmp (compE T d c) a ops bs
    | .Subscript a b _ => compSub (compE T d c) a b
    | .Call (.Name x _) args [] _ => compCall T c (compE T d c) x args
    | .ListComp elt gens scope _ => compLc c (compI T d c) (compT T d) (compE T d) elt scope gens
    | _ => none
def compT (T : GT) : Nat → Sc → Expr → Option CT
  | 0, _, _ => none
  | d + 1, c, e => match e with
    | .Name x _ => if locB c x then (ixOfN x c.N).map .name else none
    | .Tuple es _ _ => (compTs T d c es).map .tup
    | .Subscript o i _ => if isSlice i then none else match compE T d c o, compE T d c i with
      | some x, some y => some (.sub x y)
      | _, _ => none
    | _ => none
def compTs (T : GT) : Nat → Sc → List Expr → Option CTs
  | 0, _, _ => none
  | d + 1, c, es => match es with
    | [] => some .nil
    | e :: es => if isStar e then none else match compT T d c e, compTs T d c es with
      | some t, some ts => some (.cons t ts)
      | _, _ => none
def compI (T : GT) : Nat → Sc → Expr → Option CI
  | 0, _, _ => none
  | d + 1, c, e => match e with
    | .Call (.Name x p) args [] pos => if x = "range" then (if !(plainN x && glbB c.sc x) then none else compRng (compE T d c) args) else (compE T d c (.Call (.Name x p) args [] pos)).map .seq
    | e => (compE T d c e).map .seq
end
/-- a list comprehension, stored in a name on one line -/
def isLc : Expr → Bool
  | .ListComp .. => true
  | .SetComp .. => true
  | .DictComp .. => true
  | _ => false
def isTupE : Expr → Bool
  | .Tuple .. => true
  | .List .. => true
  | _ => false
/-- the comprehension's slots are those of the frame -/
def swapB (c : Sc) (y : Str) (py : Pos) : Expr → Bool
  | .ListComp _ _ scope pos => (match c.sc.names.lookup y with | some .local => true | _ => false) && (py.line == pos.line) && !(scope.names.any fun (n, k) => n == y && (k == .local || k == .cell))
  | _ => false
def notLoc (c : Sc) (y : Str) : Bool := match c.sc.names.lookup y with
  | some .local => false
  | _ => true
mutual
def compS (T : GT) : Nat → Sc → Stmt → Option CS
  | 0, _, _ => none
  | d + 1, c, s => match s with
    | .Assign [.Name y py] e _ => if !(locB c y) || !(isLc e == swapB c y py e) then none else match ixOfN y c.N, compE T d c e with
      | some i, some x => some (.asg (.name i) x)
      | _, _ => none
    | .Assign [tg] e _ => if isLc e || isTupE e then none else match compT T d c tg, compE T d c e with
      | some t, some x => some (.asg t x)
      | _, _ => none
    | .AugAssign (.Name y _) op e _ => if !(locB c y) then none else match ixOfN y c.N, bopC op, compE T d c e with
      | some i, some .add, some x => some (.aug i .add x)
      | some i, some .sub, some x => some (.aug i .sub x)
      | _, _, _ => none
    | .Expr (.Constant (.str _) _ _) _ => some .pass
    | .Expr e _ => if isLc e then none else (compE T d c e).map .ex
    | .Return (some e) _ => (compE T d c e).map .ret
    | .Return none _ => some .retn
    | .Pass _ => some .pass
    | .Break _ => some .brk
    | .Continue _ => some .cnt
    | .If t a b _ => match compE T d c t, compB T d c a, compB T d c b with
      | some z, some x, some y => some (.ite z x y)
      | _, _, _ => none
    | .While t b [] _ => match compE T d c t, compB T d c b with
      | some z, some x => some (.whl z x)
      | _, _ => none
    | .For tg it b [] _ => if isSet it then none else match compT T d c tg, compI T d c it, compB T d c b with
      | some t, some i, some x => some (.fr t i x)
      | _, _, _ => none
    | _ => some .bad
def compB (T : GT) : Nat → Sc → List Stmt → Option CSs
  | 0, _, _ => none
  | d + 1, c, l => match l with
    | [] => some .nil
    | s :: ss => match compS T d c s, compB T d c ss with
      | some x, some xs => some (.cons x xs)
      | _, _ => none
end
end L3
set_option maxRecDepth 100000
/-! L3Snd: what the interpreter says of an expression, the model does. -/
namespace L3
open PySem PySem.Spec PyProof.Rows L2
section
variable {X : Cx}
theorem pe_mono {e : Expr} {t t' : TE} (h : PE X e t) (m : ∀ σ H Q, t' σ H Q → t σ H Q) : PE X e t' := ⟨fun pins s σ H Q I q => h.run pins s σ H Q I (m σ H Q q)⟩
theorem pt_mono {e : Expr} {t t' : TT} (h : PT X e t) (m : ∀ σ H Q, t' σ H Q → t σ H Q) : PT X e t' := ⟨fun pins s σ H Q I q => h.run pins s σ H Q I (m σ H Q q)⟩
theorem pw_mono {e : Expr} {t t' : TT} (h : PW X e t) (m : ∀ σ H Q, t' σ H Q → t σ H Q) : PW X e t' := ⟨fun wh pins s σ H Q I q => h.run wh pins s σ H Q I (m σ H Q q)⟩
theorem pa_mono {e : List Expr} {t t' : TA} (h : PA X e t) (m : ∀ σ H Q, t' σ H Q → t σ H Q) : PA X e t' := ⟨fun pos pins s σ H Q I q => h.run pos pins s σ H Q I (m σ H Q q)⟩
theorem pg_mono {e : Expr} {t t' : TG} (h : PG X e t) (m : ∀ v σ H Q, t' v σ H Q → t v σ H Q) : PG X e t' := ⟨fun pins s σ H v u Q I r q => h.run pins s σ H v u Q I r (m v σ H Q q)⟩
theorem pgs_mono {e : List Expr} {t t' : TGs} (h : PGs X e t) (m : ∀ v σ H Q, t' v σ H Q → t v σ H Q) : PGs X e t' := ⟨fun pins s σ H v u Q I r q => h.run pins s σ H v u Q I r (m v σ H Q q)⟩
theorem pi_mono {tg e : Expr} {t t' : TI} (h : PI X tg e t) (m : ∀ σ H Q, t' σ H Q → t σ H Q) : PI X tg e t' := ⟨fun pins s σ H Q I q => h.run pins s σ H Q I (m σ H Q q)⟩
theorem pi_or {tg e : Expr} {t t' : TI} (h : PI X tg e t) (h' : PI X tg e t') : PI X tg e (fun σ H Q => t σ H Q ∨ t' σ H Q) := ⟨fun pins s σ H Q I q => by
  rcases q with q | q
  · exact h.run pins s σ H Q I q
  · exact h'.run pins s σ H Q I q⟩
theorem pe_orr {e : Expr} {t t' : TE} (h : PE X e t) (h' : PE X e t') : PE X e (fun σ H Q => t σ H Q ∨ t' σ H Q) := ⟨fun pins s σ H Q I q => by
  rcases q with q | q
  · exact h.run pins s σ H Q I q
  · exact h'.run pins s σ H Q I q⟩
end

/-! ### readings -/
def EW (g : G) (W : WX) (σ : L2.St) : PP Exn := fun α H x _ => ∀ c d, RX g x c d α H → W c d σ H
def LE (g : G) (W : WX) (f : Env → Store → R PV) : TE := fun σ H Q => ∃ α S ρ, Rep g α S H ∧ RE g α H ρ σ ∧ Wp g (f ρ S) α H (PV1 g Q) (EW g W σ)
def LTt (g : G) (W : WX) (f : Env → Store → R Bool) : TT := fun σ H Q => ∃ α S ρ, Rep g α S H ∧ RE g α H ρ σ ∧ Wp g (f ρ S) α H (fun _ H' b _ => Q b H') (EW g W σ)
def LA (g : G) (W : WX) (f : Env → Store → R (List PV)) : TA := fun σ H Q => ∃ α S ρ, Rep g α S H ∧ RE g α H ρ σ ∧ Wp g (f ρ S) α H (fun α' H' xs _ => ∀ ws, RVs g.K α' H' xs ws → Q ws H') (EW g W σ)
def LO (g : G) (W : WX) (f : Env → Store → R (Option Int)) : TO := fun σ H Q => ∃ α S ρ, Rep g α S H ∧ RE g α H ρ σ ∧ Wp g (f ρ S) α H (fun _ H' o _ => Q o H') (EW g W σ)
/-- the slots but those -/
def ButSl (sl : List Nat) (σ σ' : L2.St) : Prop := σ'.length = σ.length ∧ ∀ i, i ∉ sl → σ'[i]? = σ[i]?
def LG (g : G) (sl : List Nat) (f : PV → Env → Store → R Env) : TG := fun v σ H Q => ∃ α S ρ x, Rep g α S H ∧ RE g α H ρ σ ∧ RV g.K α H x v ∧
  Wp g (f x ρ S).nox α H (fun α' H' ρ' _ => ∀ σ', RE g α' H' ρ' σ' → ButSl sl σ σ' → Q σ' H') (fun _ _ _ _ => False)
def LGs (g : G) (sl : List Nat) (f : List PV → Env → Store → R Env) : TGs := fun vs σ H Q => ∃ α S ρ xs, Rep g α S H ∧ RE g α H ρ σ ∧ RVs g.K α H xs vs ∧
  Wp g (f xs ρ S).nox α H (fun α' H' ρ' _ => ∀ σ', RE g α' H' ρ' σ' → ButSl sl σ σ' → Q σ' H') (fun _ _ _ _ => False)
def LIt (g : G) (W : WX) (f : Env → Store → R ItV) : TI := fun σ H R => ∃ α S ρ, Rep g α S H ∧ RE g α H ρ σ ∧ Wp g (f ρ S) α H (fun α' H' Jv _ => ∀ J, JR g Jv J α' H' → R J H') (EW g W σ)

/-! ### what a def of the table promises -/
def spOf (g : G) (T : Tab) (n f : Nat) (np : Nat) : Sp := fun vs H Q E => vs.length = np ∧ ∃ α S args, Rep g α S H ∧ RVs g.K α H args vs ∧
  Wp g (callF T n f args S) α H (PV1 g Q) (fun α' H' x _ => ∀ c d, RX g x c d α' H' → E c d H')
structure NmOk (K : PySem.W.Frag) (mg : Str → Option Value) (T : GT) (tab : Tab) (cl fa : Nat → Addr) : Prop where
  glob : ∀ x k, T.glob.lookup x = some k → ∃ v u w, tab.glob[k]? = some v ∧ mg x = some u ∧ RelV w u ∧ ∀ α H, RV K α H v w
  fns : ∀ x f, T.fns.lookup x = some f → mg x = some (.ref (fa f)) ∧ f < tab.fns.length
  free : ∀ b : BF, mg (bfN b).1 = none
  freeT : ∀ t : Ty, mg (tyN t) = none
  isi : mg "isinstance" = none
  range : mg "range" = none
structure CxOk (T : GT) (tab : Tab) (cl fa : Nat → Addr) (pss : Nat → List Str) (n : Nat) (X : Cx) (W : WX) : Prop where
  calm : X.calm = true
  nd : X.N.Nodup
  room : Room n X.A
  nm : NmOk X.K X.mg T tab cl fa
  fns : ∀ f fn, tab.fns[f]? = some fn → (pss f).length = fn.np ∧ PySem.W.keepIn X.K (.ref (fa f)) = true ∧ ∃ fd, FnOk X.prog X.w X.K X.mg X.base (L2.CX X.prog X.w) n (fa f) fd (pss f) (spOf (gx X cl fa) tab n f fn.np) ∧ Binds X.K fd (pss f) []
  tk : Takes X W
  po : PassesOwn (model X.prog X.w) X.A X.env X.xe
structure ScOk (c : Sc) (X : Cx) : Prop where
  sc : X.env.scope = c.sc
  N : X.N = c.N
  fn : X.fn = c.fn

section
variable {X : Cx} {g : G} {W : WX}
theorem R.bind_assoc {α β γ : Type} (r : R α) (f : α → Store → R β) (h : β → Store → R γ) : (r.bind f).bind h = r.bind fun a S => (f a S).bind h := by cases r <;> rfl
theorem ofO_bind {α β : Type} (o : Option α) (S : Store) (f : α → Store → R β) : (ofO o S).bind f = match o with
    | some a => f a S
    | none => .stuck := by cases o <;> rfl
theorem EW.ext {σ : L2.St} {α α' : List Addr} {H H' : Hp} {x : Exn} {S : Store} : EW g W σ α' H' x S → EW g W σ α' H' x S := id
theorem Wp.nox {β : Type} {r : R β} {α : List Addr} {H : Hp} {P : PP β} {E : PP Exn} (h : Wp g r.nox α H P E) {E' : PP Exn} : Wp g r α H P E' := by
  cases r with
  | ok b S => exact h
  | exc x S => exact h.elim
  | stuck => exact h.elim
theorem Wp.tonox {β : Type} {r : R β} {α : List Addr} {H : Hp} {P : PP β} (h : Wp g r α H P fun _ _ _ _ => False) (hr : ∀ S, ∃ α' H', Ext α H α' H' ∧ Rep g α' S H') : Wp g r.nox α H P fun _ _ _ _ => False := by
  cases r with
  | ok b S => exact h
  | exc x S =>
    obtain ⟨α', H', e, q⟩ := hr S
    exact (h α' H' e q).elim
  | stuck => exact h
/-- bind, the ground as it is -/
theorem Wp.bind0 {β γ : Type} {r : R β} {α : List Addr} {H : Hp} {E : PP Exn} {f : β → Store → R γ} {Q : PP γ} (h : Wp g (r.bind f) α H Q E) : Wp g r α H (fun _ _ b S => Wp g (f b S) α H Q E) E := by
  cases r with
  | ok b S => exact fun _ _ _ _ => h
  | exc x S => exact h
  | stuck => exact h
end

section
variable {X : Cx} {T : GT} {tab : Tab} {cl fa : Nat → Addr} {pss : Nat → List Str} {n : Nat} {W : WX} {c : Sc}
theorem visB_ok {sc : Scope} {x : Str} (h : visB sc x = true) : Vis sc x := by
  unfold visB at h
  unfold Vis
  split at h <;> simp_all
theorem glbB_ok (sc : ScOk c X) {x : Str} (h : glbB c.sc x = true) : Gl X x := by
  unfold glbB at h
  show X.env.scope.names.lookup x = some .globalImplicit
  rw [sc.sc]
  split at h <;> simp_all
theorem plainN_ok {x : Str} (h : plainN x = true) : (x == ("__debug__" : Str)) = false ∧ (x == ("__classdict__" : Str)) = false := by
  unfold plainN at h
  simpa using h
theorem s_var (sc : ScOk c X) {x : Str} {pos : Pos} {i : Nat} (h : compVar c x = some i) : PE X (.Name x pos) (LE (gx X cl fa) W (getV · i ·)) := by
  unfold compVar at h
  split at h
  · rename_i hv
    simp only [Bool.and_eq_true] at hv
    obtain ⟨p1, p2⟩ := plainN_ok hv.1
    have hN : X.N[i]? = some x := by rw [sc.N]; exact ixOfN_ok h
    refine pe_mono (pe_var hN (by rw [sc.sc]; exact visB_ok hv.2) p1 p2) fun σ H Q ⟨α, S, ρ, hr, he, hw⟩ => ?_
    have hw : Wp (gx X cl fa) (getV ρ i S) α H (PV1 (gx X cl fa) Q) (EW (gx X cl fa) W σ) := hw
    unfold getV at hw
    split at hw
    · rename_i v hv
      obtain ⟨w, h1, h2⟩ := he.at_ i v hv
      exact ⟨w, h1, hw.ok hr w h2⟩
    · exact hw.elim
  · cases h
theorem s_name (C : CxOk T tab cl fa pss n X W) (sc : ScOk c X) {x : Str} {pos : Pos} {ce : CE} (h : compName T c x = some ce) : PE X (.Name x pos) (LE (gx X cl fa) W (evalE (cxF tab n) ce)) := by
  unfold compName at h
  split at h
  · rename_i i hi
    cases h
    exact s_var sc hi
  · split at h
    · rename_i hg
      simp only [Bool.and_eq_true] at hg
      simp only [Option.map_eq_some_iff] at h
      obtain ⟨k, hk, rfl⟩ := h
      obtain ⟨v, u, w, h1, h2, h3, h4⟩ := C.nm.glob x k hk
      refine pe_mono (pe_glob (glbB_ok sc hg.2) h2 h3 (plainN_ok hg.1).1) fun σ H Q ⟨α, S, ρ, hr, he, hw⟩ => ?_
      unfold evalE at hw
      rw [show (cxF tab n).T.glob[k]? = some v from h1] at hw
      exact hw.ok hr w (h4 α H)
    · cases h
theorem s_const {k : Const} {j : Nat} {pos : Pos} {ce : CE} (h : compConst k = some ce) : PE X (.Constant k j pos) (LE (gx X cl fa) W (evalE (cxF tab n) ce)) := by
  cases k <;> first
    | (cases h; done)
    | skip
  · cases h
    exact pe_mono pe_non fun σ H Q ⟨α, S, ρ, hr, he, hw⟩ => hw.ok hr _ rfl
  · cases h
    exact pe_mono pe_bl fun σ H Q ⟨α, S, ρ, hr, he, hw⟩ => hw.ok hr _ rfl
  · cases h
    exact pe_mono pe_int fun σ H Q ⟨α, S, ρ, hr, he, hw⟩ => hw.ok hr _ rfl
  · cases h
    refine pe_mono pe_str fun σ H Q ⟨α, S, ρ, hr, he, hw⟩ => hw.ok hr _ ?_
    rfl
theorem bopC_ok {o : Operator} {op : BOp} (h : bopC o = some op) : o = bopO op := by
  cases o <;> cases h <;> rfl
theorem copC_ok {o : CmpOp} {op : COp} (h : copC o = some op) : o = copO op := by
  cases o <;> cases h <;> rfl
theorem s_bin {a b : Expr} {pos : Pos} {f h : Env → Store → R PV} {op : BOp} (ha : PE X a (LE (gx X cl fa) W f)) (hb : PE X b (LE (gx X cl fa) W h)) :
    PE X (.BinOp a (bopO op) b pos) (LE (gx X cl fa) W fun ρ S => (f ρ S).bind fun x S => (h ρ S).bind fun y S => bop op x y S) := by
  refine pe_mono (pe_op (o_bop (cl := cl) (fa := fa) op) ha hb) fun σ H Q ⟨α, S, ρ, hr, he, hw⟩ => ?_
  exact ⟨α, S, ρ, hr, he, hw.bind.imp1 fun α1 H1 x S1 e1 r1 q1 w1 v1 => ⟨α1, S1, ρ, r1, he.ext e1, q1.bind.imp1 fun α2 H2 y S2 e2 r2 q2 w2 v2 => ⟨α2, S2, x, y, _, r2, v1.ext e2, v2, q2⟩⟩⟩
theorem notSet_marks {op : CmpOp} {b : Expr} (h : isSet b = false) : behindInMarks op b = false := by
  cases b <;> first
    | rfl
    | cases h
theorem hu64 (C : CxOk T tab cl fa pss n X W) : X.A.units + 64 < cLine := C.room.units
/-- the two values of a comparison -/
theorem s_cmp_core {f h : Env → Store → R PV} {op : COp} {σ : L2.St} {H : Hp} {Q : VK} (hh : LE (gx X cl fa) W (fun ρ S => (f ρ S).bind fun x S => (h ρ S).bind fun y S => (ofO (cop op x y S) S).bind fun k S => .ok (.bl k) S) σ H Q) :
    tOp (LC (gx X cl fa) (cop op)) (LE (gx X cl fa) W f) (LE (gx X cl fa) W h) σ H Q := by
  obtain ⟨α, S, ρ, hr, he, hw⟩ := hh
  refine ⟨α, S, ρ, hr, he, hw.bind.imp1 fun α1 H1 x S1 e1 r1 q1 w1 v1 => ⟨α1, S1, ρ, r1, he.ext e1, q1.bind.imp1 fun α2 H2 y S2 e2 r2 q2 w2 v2 => ?_⟩⟩
  rw [ofO_bind] at q2
  split at q2
  · rename_i k hk
    exact ⟨α2, S2, x, y, k, r2, v1.ext e2, v2, hk, q2.ok r2 _ rfl⟩
  · exact q2.elim
theorem s_cmp (C : CxOk T tab cl fa pss n X W) {a b : Expr} {pos : Pos} {f h : Env → Store → R PV} {op : COp} (ha : PE X a (LE (gx X cl fa) W f)) (hb : PE X b (LE (gx X cl fa) W h)) (hs : isSet b = false) :
    PE X (.Compare a [copO op] [b] pos) (LE (gx X cl fa) W fun ρ S => (f ρ S).bind fun x S => (h ρ S).bind fun y S => (ofO (cop op x y S) S).bind fun k S => .ok (.bl k) S) :=
  pe_mono (pe_cmpR (o_cop (cl := cl) (fa := fa) (hu64 C) op) ha hb (notSet_marks hs)) fun σ H Q hh => s_cmp_core hh
theorem LTt_of {f : Env → Store → R PV} {σ : L2.St} {H : Hp} {Q : Bool → Hp → Prop} (hh : LTt (gx X cl fa) W (fun ρ S => (f ρ S).bind fun x S => ofO (truthy S x) S) σ H Q) :
    LE (gx X cl fa) W f σ H fun x H' => ∃ k, TruV X.K x H' k ∧ Q k H' := by
  obtain ⟨α, S, ρ, hr, he, hw⟩ := hh
  refine ⟨α, S, ρ, hr, he, hw.bind.imp1 fun α1 H1 x S1 e1 r1 q1 w1 v1 => ?_⟩
  obtain ⟨k, hk, q2⟩ := q1.ofO
  exact ⟨k, tru_of (X := X) r1 v1 hk, q2.ok r1⟩
theorem LTt_bl {f : Env → Store → R PV} {σ : L2.St} {H : Hp} {Q : Bool → Hp → Prop} (hf : ∀ ρ S v S', f ρ S = .ok v S' → ∃ k, v = .bl k) (hh : LTt (gx X cl fa) W (fun ρ S => (f ρ S).bind fun x S => ofO (truthy S x) S) σ H Q) :
    LE (gx X cl fa) W f σ H fun x H' => ∃ k, x = .bl k ∧ Q k H' := by
  obtain ⟨α, S, ρ, hr, he, hw⟩ := hh
  refine ⟨α, S, ρ, hr, he, ?_⟩
  have hw : Wp (gx X cl fa) ((f ρ S).bind fun x S => ofO (truthy S x) S) α H (fun _ H' b _ => Q b H') (EW (gx X cl fa) W σ) := hw
  cases hv : f ρ S with
  | ok v S' =>
    obtain ⟨k, rfl⟩ := hf ρ S v S' hv
    rw [hv] at hw
    intro α1 H1 e1 r1 w1 v1
    cases v1
    exact ⟨k, rfl, (Wp.ok (show Wp (gx X cl fa) (.ok k S') α1 H1 (fun _ H' b _ => Q b H') (EW (gx X cl fa) W σ) from Wp.ext hw e1) r1)⟩
  | exc x S' => rw [hv] at hw; exact hw
  | stuck => rw [hv] at hw; exact hw.elim
theorem cmp_bl {f h : Env → Store → R PV} {op : COp} (ρ : Env) (S : Store) (v : PV) (S' : Store) (e : ((f ρ S).bind fun x S => (h ρ S).bind fun y S => (ofO (cop op x y S) S).bind fun k S => .ok (.bl k) S) = .ok v S') : ∃ k, v = .bl k := by
  cases hx : f ρ S with
  | ok x S1 =>
    rw [hx] at e
    simp only [R.bind] at e
    cases hy : h ρ S1 with
    | ok y S2 =>
      rw [hy] at e
      simp only [R.bind] at e
      cases hc : cop op x y S2 with
      | none => rw [hc] at e; cases e
      | some k => rw [hc] at e; cases e; exact ⟨k, rfl⟩
    | exc x S1 => rw [hy] at e; cases e
    | stuck => rw [hy] at e; cases e
  | exc x S1 => rw [hx] at e; cases e
  | stuck => rw [hx] at e; cases e
theorem t_cmp (C : CxOk T tab cl fa pss n X W) {a b : Expr} {pos : Pos} {f h : Env → Store → R PV} {op : COp} (ha : PE X a (LE (gx X cl fa) W f)) (hb : PE X b (LE (gx X cl fa) W h)) (hs : isSet b = false) :
    PT X (.Compare a [copO op] [b] pos) (LTt (gx X cl fa) W fun ρ S => ((f ρ S).bind fun x S => (h ρ S).bind fun y S => (ofO (cop op x y S) S).bind fun k S => .ok (.bl k) S).bind fun x S => ofO (truthy S x) S) :=
  pt_mono (pt_cmpR (o_cop (cl := cl) (fa := fa) (hu64 C) op) ha hb (notSet_marks hs)) fun σ H Q hh => s_cmp_core (LTt_bl cmp_bl hh)
abbrev chnF (f h k : Env → Store → R PV) (o1 o2 : COp) : Env → Store → R PV := fun ρ S => (f ρ S).bind fun x S => (h ρ S).bind fun y S => (ofO (cop o1 x y S) S).bind fun b S =>
      if b then (k ρ S).bind fun z S => (ofO (cop o2 y z S) S).bind fun b S => .ok (.bl b) S else .ok (.bl false) S
theorem s_chn_core {f h k : Env → Store → R PV} {o1 o2 : COp} {σ : L2.St} {H : Hp} {Q : VK} (hh : LE (gx X cl fa) W (chnF f h k o1 o2) σ H Q) :
    tChain (LC (gx X cl fa) (cop o1)) (LC (gx X cl fa) (cop o2)) (LE (gx X cl fa) W f) (LE (gx X cl fa) W h) (LE (gx X cl fa) W k) σ H Q := by
  obtain ⟨α, S, ρ, hr, he, hw⟩ := hh
  refine ⟨α, S, ρ, hr, he, hw.bind.imp1 fun α1 H1 x S1 e1 r1 q1 w1 v1 => ⟨α1, S1, ρ, r1, he.ext e1, q1.bind.imp1 fun α2 H2 y S2 e2 r2 q2 w2 v2 => ?_⟩⟩
  rw [ofO_bind] at q2
  split at q2
  · rename_i b hk
    refine ⟨α2, S2, x, y, b, r2, v1.ext e2, v2, hk, b, rfl, ?_⟩
    cases b with
    | false => exact q2.ok r2 _ rfl
    | true =>
      refine ⟨α2, S2, ρ, r2, (he.ext e1).ext e2, (Wp.bind q2).imp1 fun α3 H3 z S3 e3 r3 q3 w3 v3 => ?_⟩
      rw [ofO_bind] at q3
      split at q3
      · rename_i b2 hk2
        exact ⟨α3, S3, y, z, b2, r3, v2.ext e3, v3, hk2, q3.ok r3 _ rfl⟩
      · exact q3.elim
  · exact q2.elim
theorem chn_bl {f h k : Env → Store → R PV} {o1 o2 : COp} (ρ : Env) (S : Store) (v : PV) (S' : Store) (e : chnF f h k o1 o2 ρ S = .ok v S') : ∃ k, v = .bl k := by
  unfold chnF at e
  cases hx : f ρ S with
  | ok x S1 =>
    rw [hx] at e
    simp only [R.bind] at e
    cases hy : h ρ S1 with
    | ok y S2 =>
      rw [hy] at e
      simp only [R.bind] at e
      cases hc : cop o1 x y S2 with
      | none => rw [hc] at e; cases e
      | some b =>
        rw [hc] at e
        simp only [ofO] at e
        cases b with
        | false => cases e; exact ⟨_, rfl⟩
        | true =>
          simp only [if_true] at e
          cases hz : k ρ S2 with
          | ok z S3 =>
            rw [hz] at e
            simp only [R.bind] at e
            cases hc2 : cop o2 y z S3 with
            | none => rw [hc2] at e; cases e
            | some b2 => rw [hc2] at e; cases e; exact ⟨_, rfl⟩
          | exc x S1 => rw [hz] at e; cases e
          | stuck => rw [hz] at e; cases e
    | exc x S1 => rw [hy] at e; cases e
    | stuck => rw [hy] at e; cases e
  | exc x S1 => rw [hx] at e; cases e
  | stuck => rw [hx] at e; cases e
theorem lastMarks_ok {o1 o2 : CmpOp} {b e : Expr} (h : isSet e = false) : lastMarks [o1, o2] [b, e] = false := by
  show lastMarks [o2] [e] = false
  show behindInMarks o2 e = false
  exact notSet_marks h
theorem s_chn (C : CxOk T tab cl fa pss n X W) {a b e : Expr} {pos : Pos} {f h k : Env → Store → R PV} {o1 o2 : COp} (ha : PE X a (LE (gx X cl fa) W f)) (hb : PE X b (LE (gx X cl fa) W h)) (he : PE X e (LE (gx X cl fa) W k)) (hs : isSet e = false) :
    PE X (.Compare a [copO o1, copO o2] [b, e] pos) (LE (gx X cl fa) W (chnF f h k o1 o2)) :=
  pe_mono (pe_chain (o_cop (cl := cl) (fa := fa) (hu64 C) o1) (o_cop (cl := cl) (fa := fa) (hu64 C) o2) ha hb he (lastMarks_ok hs)) fun σ H Q hh => s_chn_core hh
theorem t_chn (C : CxOk T tab cl fa pss n X W) {a b e : Expr} {pos : Pos} {f h k : Env → Store → R PV} {o1 o2 : COp} (ha : PE X a (LE (gx X cl fa) W f)) (hb : PE X b (LE (gx X cl fa) W h)) (he : PE X e (LE (gx X cl fa) W k)) (hs : isSet e = false) :
    PT X (.Compare a [copO o1, copO o2] [b, e] pos) (LTt (gx X cl fa) W fun ρ S => (chnF f h k o1 o2 ρ S).bind fun x S => ofO (truthy S x) S) :=
  pt_mono (pt_chain (o_cop (cl := cl) (fa := fa) (hu64 C) o1) (o_cop (cl := cl) (fa := fa) (hu64 C) o2) ha hb he (lastMarks_ok hs)) fun σ H Q hh => s_chn_core (LTt_bl chn_bl hh)
/-- a list of expressions -/
theorem s_list {F : Expr → Option CE} (hF : ∀ e ce, F e = some ce → PE X e (LE (gx X cl fa) W (evalE (cxF tab n) ce))) : ∀ {es : List Expr} {ces : CEs}, listM F es = some ces → PA X es (LA (gx X cl fa) W (evalEs (cxF tab n) ces))
  | [], ces, h => by
    cases h
    exact pa_mono pa_nil fun σ H Q ⟨α, S, ρ, hr, he, hw⟩ => hw.ok hr [] rfl
  | e :: es, ces, h => by
    simp only [listM] at h
    split at h
    · cases h
    · rename_i hst
      split at h
      · rename_i ce cs h1 h2
        cases h
        have hs : starEach (e :: es) X.env = (false, eval e X.env) :: starEach es X.env := by
          cases e <;> first
            | rfl
            | exact absurd rfl hst
        refine pa_mono (pa_cons (hF _ _ h1) (s_list hF h2) hs) fun σ H Q ⟨α, S, ρ, hr, he, hw⟩ => ?_
        unfold evalEs at hw
        exact ⟨α, S, ρ, hr, he, hw.bind.imp1 fun α1 H1 x S1 e1 r1 q1 w1 v1 => ⟨α1, S1, ρ, r1, he.ext e1, q1.bind.imp1 fun α2 H2 xs S2 e2 r2 q2 ws vs => q2.ok r2 _ ⟨w1, ws, rfl, v1.ext e2, vs⟩⟩⟩
      · cases h
theorem listM_star {F : Expr → Option CE} : ∀ {es : List Expr} {ces : CEs} (env : PySem.Env) (pos : Pos), listM F es = some ces → (backTo pos (starEach es env)).any (·.1) = false
  | [], _, _, _, _ => rfl
  | e :: es, ces, env, pos, h => by
    simp only [listM] at h
    split at h
    · cases h
    · rename_i hst
      split at h
      · rename_i ce cs h1 h2
        have ih := listM_star env pos h2
        have hs : starEach (e :: es) env = (false, eval e env) :: starEach es env := by
          cases e <;> first
            | rfl
            | exact absurd rfl hst
        rw [hs]
        simpa [backTo] using ih
      · cases h
theorem listM_cons {F : Expr → Option CE} {e : Expr} {es : List Expr} {ces : CEs} (h : listM F (e :: es) = some ces) : ∃ c cs, F e = some c ∧ listM F es = some cs ∧ ces = .cons c cs ∧ isStar e = false := by
  simp only [listM] at h
  split at h
  · cases h
  · rename_i hst
    split at h
    · rename_i c cs h1 h2
      cases h
      exact ⟨c, cs, h1, h2, rfl, by simpa using hst⟩
    · cases h
theorem star_cons {e : Expr} {es : List Expr} {env : PySem.Env} (h : isStar e = false) : starEach (e :: es) env = (false, eval e env) :: starEach es env := by
  cases e <;> first
    | rfl
    | cases h
theorem s_tup {es : List Expr} {k : Nat} {pos : Pos} {f : Env → Store → R (List PV)} (h : PA X es (LA (gx X cl fa) W f)) : PE X (.Tuple es k pos) (LE (gx X cl fa) W fun ρ S => (f ρ S).bind fun xs S => if xs.length ≤ nsz then .ok (.tup xs) S else .stuck) := by
  refine pe_mono (pe_tup h) fun σ H Q ⟨α, S, ρ, hr, he, hw⟩ => ?_
  refine ⟨α, S, ρ, hr, he, hw.bind.imp1 fun α1 H1 xs S1 e1 r1 q1 ws vs => ?_⟩
  split at q1
  · rename_i hl
    exact ⟨by rw [← vs.length, ← nsz_eq]; exact hl, q1.tup r1 vs⟩
  · exact q1.elim
theorem s_lst {es : List Expr} {pos : Pos} {f : Env → Store → R (List PV)} (h : PA X es (LA (gx X cl fa) W f)) : PE X (.List es pos) (LE (gx X cl fa) W fun ρ S => (f ρ S).bind fun xs S => if xs.length ≤ nsz then .ok (.ref S.length) (S ++ [.lst xs]) else .stuck) := by
  refine pe_mono (pe_lst h) fun σ H Q ⟨α, S, ρ, hr, he, hw⟩ => ?_
  refine ⟨α, S, ρ, hr, he, hw.bind.imp1 fun α1 H1 xs S1 e1 r1 q1 ws vs => ?_⟩
  split at q1
  · rename_i hl
    exact ⟨by rw [← vs.length, ← nsz_eq]; exact hl, q1.lst r1 vs⟩
  · exact q1.elim
theorem s_neg {a : Expr} {pos : Pos} {f : Env → Store → R PV} (ha : PE X a (LE (gx X cl fa) W f)) : PE X (.UnaryOp .USub a pos) (LE (gx X cl fa) W fun ρ S => (f ρ S).bind fun x S => match x with
    | .int i => .ok (.int (-i)) S
    | _ => .stuck) := by
  refine pe_mono (pe_un un_neg ha) fun σ H Q ⟨α, S, ρ, hr, he, hw⟩ => ?_
  refine ⟨α, S, ρ, hr, he, hw.bind.imp1 fun α1 H1 x S1 e1 r1 q1 w v => ?_⟩
  cases x <;> first
    | exact q1.elim
    | (cases v; exact ⟨_, rfl, q1.ok r1 _ rfl⟩)
theorem s_tru {f : Env → Store → R PV} {h : PV → Bool → Env → Store → R PV} {σ : L2.St} {H : Hp} {Q : VK} (hh : LE (gx X cl fa) W (fun ρ S => (f ρ S).bind fun x S => (ofO (truthy S x) S).bind fun k S => h x k ρ S) σ H Q) :
    LE (gx X cl fa) W f σ H fun w H' => ∃ k, TruV X.K w H' k ∧ ∃ α S ρ x, Rep (gx X cl fa) α S H' ∧ RE (gx X cl fa) α H' ρ σ ∧ RV X.K α H' x w ∧ Wp (gx X cl fa) (h x k ρ S) α H' (PV1 (gx X cl fa) Q) (EW (gx X cl fa) W σ) := by
  obtain ⟨α, S, ρ, hr, he, hw⟩ := hh
  refine ⟨α, S, ρ, hr, he, hw.bind.imp1 fun α1 H1 x S1 e1 r1 q1 w1 v1 => ?_⟩
  rw [ofO_bind] at q1
  split at q1
  · rename_i k hk
    exact ⟨k, tru_of (X := X) r1 v1 hk, α1, S1, ρ, x, r1, he.ext e1, v1, q1⟩
  · exact q1.elim
theorem s_not {a : Expr} {pos : Pos} {f : Env → Store → R PV} (ha : PE X a (LE (gx X cl fa) W f)) : PE X (.UnaryOp .Not a pos) (LE (gx X cl fa) W fun ρ S => (f ρ S).bind fun x S => (ofO (truthy S x) S).bind fun k S => .ok (.bl (!k)) S) := by
  refine pe_mono (pe_notT ha) fun σ H Q hh => ?_
  have := s_tru (h := fun x k ρ S => .ok (.bl (!k)) S) hh
  obtain ⟨α, S, ρ, hr, he, hw⟩ := this
  refine ⟨α, S, ρ, hr, he, hw.imp1 fun α1 H1 x S1 e1 r1 q1 w1 v1 => ?_⟩
  obtain ⟨k, t, α2, S2, ρ2, x2, r2, he2, v2, q2⟩ := q1 w1 v1
  exact ⟨k, t, q2.ok r2 _ rfl⟩
theorem s_and {a b : Expr} {rest : List Expr} {pos : Pos} {f h : Env → Store → R PV} (ha : PE X a (LE (gx X cl fa) W f)) (hb : PE X (.BoolOp .And (b :: rest) pos) (LE (gx X cl fa) W h)) :
    PE X (.BoolOp .And (a :: b :: rest) pos) (LE (gx X cl fa) W fun ρ S => (f ρ S).bind fun x S => (ofO (truthy S x) S).bind fun k S => if k then h ρ S else .ok x S) := by
  refine pe_mono (pe_andT ha hb) fun σ H Q hh => ?_
  obtain ⟨α, S, ρ, hr, he, hw⟩ := s_tru (h := fun x k ρ S => if k then h ρ S else .ok x S) hh
  refine ⟨α, S, ρ, hr, he, hw.imp1 fun α1 H1 x S1 e1 r1 q1 w1 v1 => ?_⟩
  obtain ⟨k, t, α2, S2, ρ2, x2, r2, he2, v2, q2⟩ := q1 w1 v1
  refine ⟨k, t, ?_⟩
  cases k with
  | true => exact ⟨α2, S2, ρ2, r2, he2, q2⟩
  | false => exact q2.ok r2 _ v2
theorem s_or {a b : Expr} {rest : List Expr} {pos : Pos} {f h : Env → Store → R PV} (ha : PE X a (LE (gx X cl fa) W f)) (hb : PE X (.BoolOp .Or (b :: rest) pos) (LE (gx X cl fa) W h)) :
    PE X (.BoolOp .Or (a :: b :: rest) pos) (LE (gx X cl fa) W fun ρ S => (f ρ S).bind fun x S => (ofO (truthy S x) S).bind fun k S => if k then .ok x S else h ρ S) := by
  refine pe_mono (pe_orT ha hb) fun σ H Q hh => ?_
  obtain ⟨α, S, ρ, hr, he, hw⟩ := s_tru (h := fun x k ρ S => if k then .ok x S else h ρ S) hh
  refine ⟨α, S, ρ, hr, he, hw.imp1 fun α1 H1 x S1 e1 r1 q1 w1 v1 => ?_⟩
  obtain ⟨k, t, α2, S2, ρ2, x2, r2, he2, v2, q2⟩ := q1 w1 v1
  refine ⟨k, t, ?_⟩
  cases k with
  | true => exact q2.ok r2 _ v2
  | false => exact ⟨α2, S2, ρ2, r2, he2, q2⟩
theorem testE_def (cx : Cxi) (ce : CE) : testE cx ce = fun ρ S => (evalE cx ce ρ S).bind fun x S => ofO (truthy S x) S := rfl
theorem s_ife {t a b : Expr} {pos : Pos} {ct : CE} {f h : Env → Store → R PV} (ht : PT X t (LTt (gx X cl fa) W (testE (cxF tab n) ct))) (ha : PE X a (LE (gx X cl fa) W f)) (hb : PE X b (LE (gx X cl fa) W h)) :
    PE X (.IfExp t a b pos) (LE (gx X cl fa) W fun ρ S => (evalE (cxF tab n) ct ρ S).bind fun x S => (ofO (truthy S x) S).bind fun k S => if k then f ρ S else h ρ S) := by
  refine pe_mono (pe_ifExp ht ha hb) fun σ H Q ⟨α, S, ρ, hr, he, hw⟩ => ?_
  refine ⟨α, S, ρ, hr, he, ?_⟩
  have hw2 : Wp (gx X cl fa) ((testE (cxF tab n) ct ρ S).bind fun k S => if k then f ρ S else h ρ S) α H (PV1 (gx X cl fa) Q) (EW (gx X cl fa) W σ) := by
    unfold testE
    rw [R.bind_assoc]
    exact hw
  refine hw2.bind.imp1 fun α1 H1 k S1 e1 r1 q1 => ?_
  cases k with
  | true => exact ⟨α1, S1, ρ, r1, he.ext e1, q1⟩
  | false => exact ⟨α1, S1, ρ, r1, he.ext e1, q1⟩
theorem plainIx_of {b : Expr} (h : isSlice b = false) : PlainIx b := by
  intro o i
  cases b <;> first
    | rfl
    | cases h
theorem s_idx {a b : Expr} {pos : Pos} {f h : Env → Store → R PV} (ha : PE X a (LE (gx X cl fa) W f)) (hb : PE X b (LE (gx X cl fa) W h)) (hs : isSlice b = false) :
    PE X (.Subscript a b pos) (LE (gx X cl fa) W fun ρ S => (f ρ S).bind fun x S => (h ρ S).bind fun y S => ofO (getIx x y S) S) := by
  refine pe_mono (pe_ix (o_ix (cl := cl) (fa := fa)) ha hb (plainIx_of hs)) fun σ H Q ⟨α, S, ρ, hr, he, hw⟩ => ?_
  refine ⟨α, S, ρ, hr, he, hw.bind.imp1 fun α1 H1 x S1 e1 r1 q1 w1 v1 => ⟨α1, S1, ρ, r1, he.ext e1, q1.bind.imp1 fun α2 H2 y S2 e2 r2 q2 w2 v2 => ?_⟩⟩
  obtain ⟨v, hv, q3⟩ := q2.ofO
  exact ⟨α2, S2, x, y, v, r2, v1.ext e2, v2, hv, q3.ok r2⟩
theorem s_opt {F : Expr → Option CE} (hF : ∀ e ce, F e = some ce → PE X e (LE (gx X cl fa) W (evalE (cxF tab n) ce))) {o : Option Expr} {co : CO} (h : optE F o = some co) : ∃ t, PO X o t ∧ ∀ σ H Q, LO (gx X cl fa) W (evalO (cxF tab n) co) σ H Q → t σ H Q := by
  cases o with
  | none =>
    cases h
    exact ⟨_, po_none, fun σ H Q ⟨α, S, ρ, hr, he, hw⟩ => hw.ok hr⟩
  | some e =>
    simp only [optE, Option.map_eq_some_iff] at h
    obtain ⟨ce, h1, rfl⟩ := h
    refine ⟨_, po_some (hF e ce h1), fun σ H Q ⟨α, S, ρ, hr, he, hw⟩ => ⟨α, S, ρ, hr, he, ?_⟩⟩
    unfold evalO at hw
    refine hw.bind.imp1 fun α1 H1 x S1 e1 r1 q1 w1 v1 => ?_
    cases x <;> first
      | exact q1.elim
      | (cases v1; exact ⟨_, rfl, q1.ok r1⟩)
theorem s_slc {a : Expr} {lo hi : Option Expr} {p2 pos : Pos} {f : Env → Store → R PV} {cl1 ch : CO} {tl th : TO} (ha : PE X a (LE (gx X cl fa) W f)) (hl : PO X lo tl) (hl' : ∀ σ H Q, LO (gx X cl fa) W (evalO (cxF tab n) cl1) σ H Q → tl σ H Q)
    (hh : PO X hi th) (hh' : ∀ σ H Q, LO (gx X cl fa) W (evalO (cxF tab n) ch) σ H Q → th σ H Q) :
    PE X (.Subscript a (.Slice lo hi none p2) pos) (LE (gx X cl fa) W fun ρ S => (f ρ S).bind fun x S => (evalO (cxF tab n) cl1 ρ S).bind fun l S => (evalO (cxF tab n) ch ρ S).bind fun h S => getSl x l h S) := by
  refine pe_mono (pe_slice (o_sl (cl := cl) (fa := fa)) ha hl hh) fun σ H Q ⟨α, S, ρ, hr, he, hw⟩ => ?_
  refine ⟨α, S, ρ, hr, he, hw.bind.imp1 fun α1 H1 x S1 e1 r1 q1 w1 v1 => hl' _ _ _ ⟨α1, S1, ρ, r1, he.ext e1, q1.bind.imp1 fun α2 H2 l S2 e2 r2 q2 => hh' _ _ _ ⟨α2, S2, ρ, r2, (he.ext e1).ext e2, q2.bind.imp1 fun α3 H3 h S3 e3 r3 q3 => ?_⟩⟩⟩
  exact ⟨α3, S3, x, _, r3, (v1.ext e2).ext e3, q3⟩
theorem isi_boot : bootBuiltins "isinstance" = some (.builtin "isinstance") := by decide +kernel
theorem ty_boot (t : Ty) : bootBuiltins (tyN t) = some (.type (tyN t)) := by cases t <;> decide +kernel
theorem s_isi (C : CxOk T tab cl fa pss n X W) {a : Expr} {t : Ty} {p q pos : Pos} {f : Env → Store → R PV} (ha : PE X a (LE (gx X cl fa) W f)) (hst : isStar a = false) (g1 : Gl X "isinstance") (g2 : Gl X (tyN t)) (hn : tyN t ≠ ("__name__" : Str)) (hd : ((tyN t : Str) == ("__debug__" : Str)) = false) :
    PE X (.Call (.Name "isinstance" p) [a, .Name (tyN t) q] [] pos) (LE (gx X cl fa) W fun ρ S => (f ρ S).bind fun x S => (ofO (isTy S x t) S).bind fun k S => .ok (.bl k) S) := by
  have hp : PA X [a, .Name (tyN t) q] (tCons (LE (gx X cl fa) W f) (tCons (tC (.ty (tyN t))) tNil)) := pa_cons ha (pa_cons (pe_bltn g2 (C.nm.freeT t) (ty_boot t) rfl hn hd) pa_nil) (star_cons hst)
  refine pe_mono (pe_callB call_isi g1 C.nm.isi isi_boot hp (he := star_cons hst) (hpl := by rfl)) fun σ H Q ⟨α, S, ρ, hr, he, hw⟩ => ?_
  refine ⟨α, S, ρ, hr, he, hw.bind.imp1 fun α1 H1 x S1 e1 r1 q1 w1 v1 => ?_⟩
  rw [ofO_bind] at q1
  split at q1
  · rename_i k hk
    obtain ⟨nm, t1, t2⟩ := isi_of (X := X) r1 v1 hk
    exact ⟨_, _, _, _, k, rfl, .ty _, t1, t2, q1.ok r1 _ rfl⟩
  · exact q1.elim
end
end L3
set_option maxRecDepth 100000
/-! L3Snd2: calls, targets, iterators, comprehensions; every compiled expression. -/
namespace L3
open PySem PySem.Spec PyProof.Rows L2
section
variable {X : Cx} {T : GT} {tab : Tab} {cl fa : Nat → Addr} {pss : Nat → List Str} {n : Nat} {W : WX} {c : Sc}
theorem fn_at (C : CxOk T tab cl fa pss n X W) {x : Str} {f : Nat} (h : T.fns.lookup x = some f) : ∃ fn, tab.fns[f]? = some fn ∧ X.mg x = some (.ref (fa f)) := by
  obtain ⟨h1, h2⟩ := C.nm.fns x f h
  exact ⟨tab.fns[f], by simp [h2], h1⟩
theorem callF_np {tab : Tab} {n f : Nat} {fn : Fn} (hf : tab.fns[f]? = some fn) {args : List PV} {S : Store} (h : args.length ≠ fn.np) : callF tab n f args S = .stuck := by
  cases n with
  | zero => rfl
  | succ n =>
    rw [callF_succ, hf]
    simp only
    rw [if_neg h]
theorem pe_callS0 {X : Cx} {CX : CXT} {k : Nat} {f : Addr} {fd : FuncData} {ps : List Str} {sp : Sp} {E : L2.St → XK} {x : Str} {p pos : Pos} (F : FnOk X.prog X.w X.K X.mg X.base CX k f fd ps sp) (hr : Room k X.A) (hg : Gl X x) (hm : X.mg x = some (.ref f)) (hk : PySem.W.keepIn X.K (.ref f) = true)
    (hb : Binds X.K fd ps []) (hx : ∀ σ, PassesAt CX X σ (E σ)) (hdb : (x == ("__debug__" : Str)) = false) : PE X (.Call (.Name x p) [] [] pos) (tCallS sp E tNil) := by
  refine ⟨fun pins s σ H Q I h => ?_⟩
  refine wpAny_Call_Name_kw (ld_glob I hg hm ?_ hdb)
  exact PySem.W.callWith_K0 I.kIn hk (run_fnS (us := []) F hr hb (hx σ) I .nil h)
theorem sp_of {fn : Fn} {f : Nat} (h1 : tab.fns[f]? = some fn) {α : List Addr} {H : Hp} {S : Store} {xs : List PV} {ws : List V} {Q : VK} {σ : L2.St} (r : Rep (gx X cl fa) α S H) (vs : RVs X.K α H xs ws)
    (q : Wp (gx X cl fa) (callF tab n f xs S) α H (PV1 (gx X cl fa) Q) (EW (gx X cl fa) W σ)) : spOf (gx X cl fa) tab n f fn.np ws H Q (WE W σ) := by
  refine ⟨?_, α, S, xs, r, vs, q⟩
  rw [← vs.length]
  exact Classical.byContradiction fun z => by
    rw [callF_np h1 z] at q
    exact q.elim
theorem s_cal0 (C : CxOk T tab cl fa pss n X W) {x : Str} {f : Nat} {p pos : Pos} (hf : T.fns.lookup x = some f) (hg : Gl X x) (hd : (x == ("__debug__" : Str)) = false) :
    PE X (.Call (.Name x p) [] [] pos) (LE (gx X cl fa) W fun ρ S => callF tab n f [] S) := by
  obtain ⟨fn, h1, h2⟩ := fn_at C hf
  obtain ⟨k1, k2, fd, F, B⟩ := C.fns f fn h1
  exact pe_mono (pe_callS0 (E := WE W) F C.room hg h2 k2 B (fun σ => passAt C.tk σ) hd) fun σ H Q ⟨α, S, ρ, hr, he, hw⟩ => sp_of (xs := []) (ws := []) h1 hr rfl hw
theorem s_cal (C : CxOk T tab cl fa pss n X W) {x : Str} {f : Nat} {e : Expr} {es : List Expr} {p pos : Pos} {h : Env → Store → R (List PV)} (hf : T.fns.lookup x = some f) (hg : Gl X x) (hd : (x == ("__debug__" : Str)) = false) (ha : PA X (e :: es) (LA (gx X cl fa) W h))
    (hs : isStar e = false) (hs2 : (backTo pos (starEach es X.env)).any (·.1) = false) : PE X (.Call (.Name x p) (e :: es) [] pos) (LE (gx X cl fa) W fun ρ S => (h ρ S).bind fun xs S => callF tab n f xs S) := by
  obtain ⟨fn, h1, h2⟩ := fn_at C hf
  obtain ⟨k1, k2, fd, F, B⟩ := C.fns f fn h1
  exact pe_mono (pe_callS (E := WE W) F C.room hg h2 k2 B (fun σ => passAt C.tk σ) ha hd (star_cons hs) hs2) fun σ H Q ⟨α, S, ρ, hr, he, hw⟩ =>
    ⟨α, S, ρ, hr, he, hw.bind.imp1 fun α1 H1 xs S1 e1 r1 q1 ws vs => sp_of h1 r1 vs q1⟩
theorem bfOf_ok {x : Str} {b : BF} (h : bfOf x = some b) : x = (bfN b).1 := by
  unfold bfOf at h
  repeat (first
    | (split at h; · (rename_i e; cases h; exact e))
    | (cases h; done))
theorem s_bf (C : CxOk T tab cl fa pss n X W) {b : BF} {e : Expr} {es : List Expr} {p pos : Pos} {h : Env → Store → R (List PV)} (hg : Gl X (bfN b).1) (hd : ((bfN b).1 == ("__debug__" : Str)) = false) (ha : PA X (e :: es) (LA (gx X cl fa) W h))
    (hs : isStar e = false) (hs2 : (backTo pos (starEach es X.env)).any (·.1) = false) : PE X (.Call (.Name (bfN b).1 p) (e :: es) [] pos) (LE (gx X cl fa) W fun ρ S => (h ρ S).bind fun xs S => bfun b xs S) := by
  have hn : (bfN b).1 ≠ ("__name__" : Str) := by cases b <;> decide +kernel
  have fin : PE X (.Call (.Name (bfN b).1 p) (e :: es) [] pos) (tCB (LB (gx X cl fa) b) (LA (gx X cl fa) W h)) := by
    cases b
    all_goals first
      | exact pe_callB (b_bf C.calm _) hg (C.nm.free _) (bf_boot _) ha hn hd (star_cons hs) hs2
      | exact pe_callTy (b_bf C.calm _) hg (C.nm.free _) (bf_boot _) ha hn hd (star_cons hs) hs2
  exact pe_mono fin fun σ H Q ⟨α, S, ρ, hr, he, hw⟩ => ⟨α, S, ρ, hr, he, hw.bind.imp1 fun α1 H1 xs S1 e1 r1 q1 ws vs => ⟨α1, S1, xs, _, r1, vs, q1⟩⟩

/-! ### targets -/
theorem Wp.nox0 {g : G} {β γ : Type} {r : R β} {α : List Addr} {H : Hp} {E' : PP Exn} {f : β → Store → R γ} {Q : PP γ} (h : Wp g (r.nox.bind f) α H Q fun _ _ _ _ => False) : Wp g r α H (fun α' H' b S => Wp g (f b S) α' H' Q fun _ _ _ _ => False) E' := (Wp.bind h).nox
theorem ButSl.refl (sl : List Nat) (σ : L2.St) : ButSl sl σ σ := ⟨rfl, fun _ _ => rfl⟩
theorem ButSl.trans {a b : List Nat} {σ σ1 σ2 : L2.St} (h : ButSl a σ σ1) (h' : ButSl b σ1 σ2) : ButSl (a ++ b) σ σ2 :=
  ⟨h'.1.trans h.1, fun i hi => (h'.2 i fun z => hi (List.mem_append_right _ z)).trans (h.2 i fun z => hi (List.mem_append_left _ z))⟩
theorem locB_ok (sc : ScOk c X) {x : Str} (h : locB c x = true) : L2.Loc X.env.scope x ∧ (X.fn x = true ∨ X.env.scope.names.lookup x = some .local) := by
  unfold locB at h
  unfold L2.Loc
  rw [sc.sc, sc.fn]
  split at h
  · rename_i e; exact ⟨.inl e, .inr e⟩
  · rename_i e; exact ⟨.inr e, .inl h⟩
  · cases h
theorem g_name (C : CxOk T tab cl fa pss n X W) (sc : ScOk c X) {x : Str} {pos : Pos} {i : Nat} (hl : locB c x = true) (hi : ixOfN x c.N = some i) : PG X (.Name x pos) (LG (gx X cl fa) [i] (assignE (cxF tab n) (.name i))) := by
  obtain ⟨l1, l2⟩ := locB_ok sc hl
  refine pg_mono (pg_name C.nd (by rw [sc.N]; exact ixOfN_ok hi) l1 l2) fun v σ H Q ⟨α, S, ρ, x, hr, he, hv, hw⟩ => ?_
  unfold assignE at hw
  split at hw
  · refine (show Wp (gx X cl fa) (.ok (ρ.set i (some x)) S) α H (fun α' H' ρ' _ => ∀ σ', RE (gx X cl fa) α' H' ρ' σ' → ButSl [i] σ σ' → Q σ' H') (fun _ _ _ _ => False) from hw).ok hr _ (he.set hv) ⟨by simp, fun j hj => ?_⟩
    rw [List.getElem?_set_ne]
    intro z
    exact hj (by simp [z])
  · exact hw.elim
theorem nox_bind {α β : Type} (r : R α) (f : α → Store → R β) : (r.bind f).nox = r.nox.bind fun a S => (f a S).nox := by cases r <;> rfl
theorem gs_nil : PGs X [] (LGs (gx X cl fa) [] (assignEs (cxF tab n) .nil)) := by
  refine pgs_mono pgs_nil fun vs σ H Q ⟨α, S, ρ, xs, hr, he, hv, hw⟩ => ?_
  cases xs with
  | nil =>
    cases hv
    exact ⟨rfl, (show Wp (gx X cl fa) (.ok ρ S) α H (fun α' H' ρ' _ => ∀ σ', RE (gx X cl fa) α' H' ρ' σ' → ButSl [] σ σ' → Q σ' H') (fun _ _ _ _ => False) from hw).ok hr _ he (ButSl.refl _ _)⟩
  | cons x xs => exact hw.elim
theorem gs_cons {e : Expr} {es : List Expr} {t : CT} {ts : CTs} (h1 : PG X e (LG (gx X cl fa) t.slots (assignE (cxF tab n) t))) (h2 : PGs X es (LGs (gx X cl fa) ts.slots (assignEs (cxF tab n) ts)))
    (hs : (assignEach (e :: es) X.env).map (·.2) = assign e X.env :: (assignEach es X.env).map (·.2)) : PGs X (e :: es) (LGs (gx X cl fa) (t.slots ++ ts.slots) (assignEs (cxF tab n) (.cons t ts))) := by
  refine pgs_mono (pgs_cons h1 h2 hs) fun vs σ H Q ⟨α, S, ρ, xs, hr, he, hv, hw⟩ => ?_
  cases xs with
  | nil => exact hw.elim
  | cons x xs =>
    obtain ⟨w, ws, rfl, v1, v2⟩ := hv
    unfold assignEs at hw
    rw [nox_bind] at hw
    refine ⟨w, ws, rfl, α, S, ρ, x, hr, he, v1, hw.bind.imp1 fun α1 H1 ρ1 S1 e1 r1 q1 σ1 he1 b1 => ?_⟩
    refine ⟨α1, S1, ρ1, xs, r1, he1, v2.ext e1, q1.imp1 fun α2 H2 ρ2 S2 e2 r2 q2 σ2 he2 b2 => q2 σ2 he2 (b1.trans b2)⟩
theorem g_tup (C : CxOk T tab cl fa pss n X W) {es : List Expr} {k : Nat} {pos : Pos} {ts : CTs} (h : PGs X es (LGs (gx X cl fa) ts.slots (assignEs (cxF tab n) ts))) (hl : (assignEach es X.env).length = es.length) (hst : (assignEach es X.env).findIdx? (·.1) = none)
    (hlen : ∀ xs ρ S, xs.length ≠ es.length → assignEs (cxF tab n) ts xs ρ S = .stuck ∨ ∃ x S', assignEs (cxF tab n) ts xs ρ S = .exc x S') : PG X (.Tuple es k pos) (LG (gx X cl fa) ts.slots (assignE (cxF tab n) (.tup ts))) := by
  refine pg_mono (pg_tup C.calm h hl hst) fun v σ H Q ⟨α, S, ρ, x, hr, he, hv, hw⟩ => ?_
  unfold assignE at hw
  cases x with
  | tup xs =>
    obtain ⟨a, vs, rfl, s1, r1⟩ := hv
    have hw : Wp (gx X cl fa) (assignEs (cxF tab n) ts xs ρ S).nox α H (fun α' H' ρ' _ => ∀ σ', RE (gx X cl fa) α' H' ρ' σ' → ButSl ts.slots σ σ' → Q σ' H') (fun _ _ _ _ => False) := hw
    refine ⟨a, vs, rfl, s1, ?_, α, S, ρ, xs, hr, he, r1, hw⟩
    rw [← r1.length]
    exact Classical.byContradiction fun z => by
      rcases hlen xs ρ S z with e | ⟨x, S', e⟩ <;> (rw [e] at hw; exact hw.elim)
  | _ => exact hw.elim
def CTs.len : CTs → Nat
  | .nil => 0
  | .cons _ ts => ts.len + 1
theorem assignEs_bad (cx : Cxi) : ∀ (ts : CTs) (xs : List PV) (ρ : Env) (S : Store), xs.length ≠ ts.len → assignEs cx ts xs ρ S = .stuck ∨ ∃ x S', assignEs cx ts xs ρ S = .exc x S'
  | .nil, [], _, _, h => absurd rfl h
  | .nil, _ :: _, _, _, _ => .inl rfl
  | .cons _ _, [], _, _, _ => .inl rfl
  | .cons t ts, x :: xs, ρ, S, h => by
    unfold assignEs
    cases e : assignE cx t x ρ S with
    | ok ρ' S' => exact assignEs_bad cx ts xs ρ' S' (fun z => h (by simp [CTs.len, z]))
    | exc x S' => exact .inr ⟨_, _, rfl⟩
    | stuck => exact .inl rfl
theorem g_sub (C : CxOk T tab cl fa pss n X W) {o i : Expr} {pos : Pos} {co ci : CE} (ho : PE X o (LE (gx X cl fa) W (evalE (cxF tab n) co))) (hi : PE X i (LE (gx X cl fa) W (evalE (cxF tab n) ci))) (hs : isSlice i = false) :
    PG X (.Subscript o i pos) (LG (gx X cl fa) [] (assignE (cxF tab n) (.sub co ci))) := by
  refine pg_mono (pg_sub ho hi set_list (by
    intro v
    cases i <;> first
      | rfl
      | cases hs)) fun v σ H Q ⟨α, S, ρ, x, hr, he, hv, hw⟩ => ?_
  unfold assignE at hw
  rw [nox_bind] at hw
  have hw' := hw.nox0 (E' := EW (gx X cl fa) W σ)
  refine ⟨α, S, ρ, hr, he, hw'.imp1 fun α1 H1 a S1 e1 r1 q1 w1 v1 => ?_⟩
  rw [nox_bind] at q1
  refine ⟨α1, S1, ρ, r1, he.ext e1, (q1.nox0 (E' := EW (gx X cl fa) W σ)).imp1 fun α2 H2 b S2 e2 r2 q2 w2 v2 => ?_⟩
  cases hS : setIx a b x S2 with
  | none => rw [hS] at q2; exact q2.elim
  | some S3 =>
    rw [hS] at q2
    have q2 : Wp (gx X cl fa) (.ok ρ S3) α2 H2 (fun α' H' ρ' _ => ∀ σ', RE (gx X cl fa) α' H' ρ' σ' → ButSl [] σ σ' → Q σ' H') (fun _ _ _ _ => False) := q2
    unfold setIx at hS
    cases a <;> first
      | (cases hS; done)
      | skip
    cases b <;> first
      | (cases hS; done)
      | skip
    rename_i p k
    cases v2
    simp only at hS
    split at hS
    · rename_i xs hp
      simp only [Option.map_eq_some_iff] at hS
      obtain ⟨j, hj, rfl⟩ := hS
      obtain ⟨ad, vs, rfl, ha, e3, r3⟩ := r2.list (X := X) hp (v1.ext e2)
      refine ⟨ad, vs, k, j, rfl, rfl, e3, by rw [← r3.length]; exact hj, ?_⟩
      have hm := List.mem_of_getElem? ha
      have ex := Ext.set r2 hm (.lst (vs.set j v))
      refine q2.okE ex (r2.set ha ⟨_, upd_same, RVs.set j (((hv.ext e1).ext e2).ext ex) (r3.ext ex)⟩) σ (((he.ext e1).ext e2).ext ex) (ButSl.refl _ _)
    · cases hS
end
end L3
set_option maxRecDepth 100000
/-! L3Snd3: what is walked, comprehensions; every compiled expression. -/
namespace L3
open PySem PySem.Spec PyProof.Rows L2
section
variable {X : Cx} {T : GT} {tab : Tab} {cl fa : Nat → Addr} {pss : Nat → List Str} {n : Nat} {W : WX} {c : Sc}
theorem s_iseq {tg e : Expr} {ce : CE} (he : PE X e (LE (gx X cl fa) W (evalE (cxF tab n) ce))) : PI X tg e (LIt (gx X cl fa) W (iterE (cxF tab n) (.seq ce))) := by
  refine pi_mono (pi_or (pi_list he) (pi_or (pi_tup he) (pi_str he))) fun σ H R ⟨α, S, ρ, hr, h1, hw⟩ => ?_
  unfold iterE at hw
  cases hv : evalE (cxF tab n) ce ρ S with
  | stuck => rw [hv] at hw; exact hw.elim
  | exc x S1 =>
    refine .inl ⟨α, S, ρ, hr, h1, ?_⟩
    rw [hv] at hw ⊢
    exact hw
  | ok v S1 =>
    have go : ∀ {P : PP PV}, (∀ α' H', Ext α H α' H' → Rep (gx X cl fa) α' S1 H' → P α' H' v S1) → Wp (gx X cl fa) (evalE (cxF tab n) ce ρ S) α H P (EW (gx X cl fa) W σ) := fun {P} h => by
      rw [hv]
      exact h
    have fin : ∀ {α' H' Jv J}, seqIt v S1 = .ok Jv S1 → Ext α H α' H' → Rep (gx X cl fa) α' S1 H' → JR (gx X cl fa) Jv J α' H' → R J H' := fun {α' H' Jv J} e1 e2 e3 e4 => by
      rw [hv] at hw
      have hw : Wp (gx X cl fa) (seqIt v S1) α H (fun α' H' Jv _ => ∀ J, JR (gx X cl fa) Jv J α' H' → R J H') (EW (gx X cl fa) W σ) := hw
      rw [e1] at hw
      exact hw.okE e2 e3 J e4
    have bad : (∀ Jv, seqIt v S1 ≠ .ok Jv S1) → seqIt v S1 = .stuck → False := fun _ e => by
      rw [hv] at hw
      have hw : Wp (gx X cl fa) (seqIt v S1) α H (fun α' H' Jv _ => ∀ J, JR (gx X cl fa) Jv J α' H' → R J H') (EW (gx X cl fa) W σ) := hw
      rw [e] at hw
      exact hw
    cases v with
    | tup xs =>
      refine .inr (.inl ⟨α, S, ρ, hr, h1, go fun α' H' e r w hv' => ?_⟩)
      obtain ⟨a, vs, rfl, s1, r1⟩ := hv'
      exact ⟨a, rfl, ⟨vs, s1⟩, fin rfl e r (jr_tup (X := X) s1 r1)⟩
    | rol xs =>
      refine .inl ⟨α, S, ρ, hr, h1, go fun α' H' e r w hv' => ?_⟩
      obtain ⟨a, vs, rfl, s1, r1⟩ := hv'
      exact ⟨a, rfl, ⟨vs, s1.l⟩, fin rfl e r (jr_rol (X := X) s1 r1)⟩
    | str x =>
      refine .inr (.inr ⟨α, S, ρ, hr, h1, go fun α' H' e r w hv' => ?_⟩)
      cases hv'
      exact ⟨_, rfl, fin rfl e r (jr_str (X := X))⟩
    | ref p =>
      cases hp : S1[p]? with
      | none => exact (bad (fun Jv => by simp [seqIt, hp]) (by simp [seqIt, hp])).elim
      | some o =>
        cases o with
        | lst xs =>
          refine .inl ⟨α, S, ρ, hr, h1, go fun α' H' e r w hv' => ?_⟩
          obtain ⟨a, vs, rfl, ha, e1, r1⟩ := r.list (X := X) hp hv'
          exact ⟨a, rfl, ⟨vs, SqL.of e1⟩, fin (by simp [seqIt, hp]) e r (jr_ref (X := X) ha)⟩
        | _ => exact (bad (fun Jv => by simp [seqIt, hp]) (by simp [seqIt, hp])).elim
    | _ => exact (bad (fun Jv => by simp [seqIt]) rfl).elim
theorem s_rng (C : CxOk T tab cl fa pss n X W) {tg a : Expr} {p pos : Pos} {ce : CE} (hg : Gl X "range") (hst : isStar a = false) (he : PE X a (LE (gx X cl fa) W (evalE (cxF tab n) ce))) :
    PI X tg (.Call (.Name "range" p) [a] [] pos) (LIt (gx X cl fa) W (iterE (cxF tab n) (.rng ce))) := by
  refine pi_mono (pi_range1 hg C.nm.range (pa_cons he pa_nil (star_cons hst)) (by rw [star_cons hst]; rfl)) fun σ H R ⟨α, S, ρ, hr, h1, hw⟩ => ?_
  unfold iterE at hw
  refine ⟨α, S, ρ, hr, h1, hw.bind.imp1 fun α1 H1 x S1 e1 r1 q1 w1 v1 => ?_⟩
  cases x <;> first
    | exact q1.elim
    | skip
  cases v1
  simp only at q1
  split at q1
  · rename_i hl
    exact ⟨_, rfl, hl.1, hl.2, q1.ok r1 _ (jr_rng (X := X))⟩
  · exact q1.elim
theorem s_rng2 (C : CxOk T tab cl fa pss n X W) {tg a b : Expr} {p pos : Pos} {ca cb : CE} (hg : Gl X "range") (hst : isStar a = false) (hst2 : isStar b = false) (ha : PE X a (LE (gx X cl fa) W (evalE (cxF tab n) ca))) (hb : PE X b (LE (gx X cl fa) W (evalE (cxF tab n) cb))) :
    PI X tg (.Call (.Name "range" p) [a, b] [] pos) (LIt (gx X cl fa) W (iterE (cxF tab n) (.rng2 ca cb))) := by
  refine pi_mono (pi_range2 hg C.nm.range (pa_cons ha (pa_cons hb pa_nil (star_cons hst2)) (star_cons hst)) (by rw [star_cons hst, star_cons hst2]; rfl) (by rw [star_cons hst2]; rfl)) fun σ H R ⟨α, S, ρ, hr, h1, hw⟩ => ?_
  unfold iterE at hw
  refine ⟨α, S, ρ, hr, h1, hw.bind.imp1 fun α1 H1 x S1 e1 r1 q1 w1 v1 => ⟨α1, S1, ρ, r1, h1.ext e1, q1.bind.imp1 fun α2 H2 y S2 e2 r2 q2 w2 v2 => ?_⟩⟩
  cases x <;> first
    | exact q2.elim
    | skip
  cases y <;> first
    | exact q2.elim
    | skip
  cases v1; cases v2
  simp only at q2
  split at q2
  · rename_i hl
    exact ⟨_, _, rfl, ⟨hl.1, hl.2.1, hl.2.2.1, hl.2.2.2⟩, q2.ok r2 _ (jr_rng (X := X))⟩
  · exact q2.elim

/-! ### comprehensions -/
theorem wipe_get {σ : L2.St} {j : Nat} : ∀ {vs : List Nat}, (L2.wipe σ vs)[j]? = if j ∈ vs then (if j < σ.length then some none else none) else σ[j]?
  | [] => by simp [L2.wipe]
  | v :: vs => by
    unfold L2.wipe
    rw [List.getElem?_set]
    have ih := @wipe_get σ j vs
    by_cases h : v = j
    · subst h
      simp [L2.wipe_length]
    · rw [if_neg h, ih]
      simp [Ne.symm h]
theorem wipe_but {σ σ' : L2.St} {sl vs : List Nat} (h : ButSl sl (L2.wipe σ vs) σ') (hs : ∀ i ∈ sl, i ∈ vs) : L2.wipe σ' vs = L2.wipe σ vs := by
  refine List.ext_getElem? fun j => ?_
  rw [wipe_get, wipe_get]
  have hl : σ'.length = σ.length := by rw [h.1, L2.wipe_length]
  by_cases hj : j ∈ vs
  · simp [hj, hl]
  · rw [if_neg hj, if_neg hj, h.2 j fun z => hj (hs j z), wipe_get, if_neg hj]
/-- a private place changes -/
theorem Ext.priv {α α' : List Addr} {H H' : Hp} {D : Addr} {o : HO} (e : Ext α H α' H') (hD : H D = none) : Ext α H α' (upd H' D o) := by
  have ne : ∀ b u, H b = some u → b ≠ D := fun b u h z => by subst z; rw [hD] at h; cases h
  exact ⟨e.pre, fun a u h ha => by rw [upd_ne (ne a u h)]; exact e.keep a u h ha, fun a u h => by rw [upd_ne (ne a u h)]; exact e.there a u h,
    fun b xs h => by rw [upd_ne (ne b _ h)]; exact e.tups b xs h, fun b u v h => by rw [upd_ne (ne b _ h)]; exact e.frzs b u v h⟩
theorem Kp.priv {α : List Addr} {H : Hp} {D : Addr} {xs : List V} {o : HO} (h : H D = some (.lst xs)) : Kp α H α (upd H D o) := by
  refine ⟨fun _ _ h => h, fun b ys q => ?_, fun b u v q => ?_⟩
  · rw [upd_ne]; exact q
    rintro rfl
    rw [h] at q; cases q
  · rw [upd_ne]; exact q
    rintro rfl
    rw [h] at q; cases q
theorem Wp.noxE {g : G} {β : Type} {r : R β} {α : List Addr} {H : Hp} {P : PP β} {E : PP Exn} (h : Wp g r.nox α H P E) (E' : PP Exn) : Wp g r α H P E' := by
  cases r with
  | ok b S => exact h
  | exc x S => exact h.elim
  | stuck => exact h.elim
theorem Wp.noxN {g : G} {β : Type} {r : R β} {α : List Addr} {H : Hp} {P : PP β} {E : PP Exn} (h : Wp g r.nox α H P E) (E' : PP Exn) : Wp g r.nox α H P E' := by
  cases r with
  | ok b S => exact h
  | exc x S => exact h.elim
  | stuck => exact h.elim
/-- the body of a comprehension's turn -/
abbrev lcBody (cx : Cxi) (vs : List Nat) (t : CT) (cond elt : CE) (ρ : Env) : PV → Store → R (Option PV) := fun x S => (assignE cx t x (wipe ρ vs) S).bind fun ρ' S =>
      (evalE cx cond ρ' S).bind fun c S => (ofO (truthy S c) S).bind fun k S => if k then (evalE cx elt ρ' S).bind fun y S => .ok (some y) S else .ok none S
theorem lc_read {own : List (Str × Nat)} {ci : CI} {ct : CT} {cond ce : CE} {tt : TT} (htt : ∀ σ H Q, LTt (gx X cl fa) (fun _ _ _ _ => False) (testE (cxF tab n) cond) σ H Q → tt σ H Q) (hsl : ∀ i ∈ ct.slots, i ∈ own.map (·.2)) {σ : L2.St} {H : Hp} {Q : VK}
    (hh : LE (gx X cl fa) W (evalE (cxF tab n) (.lc (own.map (·.2)) ct ci cond ce)) σ H Q) :
    tLc (LIt (gx X cl fa) W (iterE (cxF tab n) ci)) (LG (gx X cl fa) ct.slots (assignE (cxF tab n) ct)) tt (LE (gx X cl fa) (fun _ _ _ _ => False) (evalE (cxF tab n) ce)) (own.map (·.2)) σ H Q := by
  obtain ⟨α, S, ρ, hr, he, hw⟩ := hh
  generalize hvs : own.map (·.2) = vs at *
  unfold evalE at hw
  refine ⟨α, S, ρ, hr, he, hw.bind.imp1 fun α1 H1 Jv S1 e1 r1 q1 J jr D hD => ?_⟩
  have q1 : Wp (gx X cl fa) (lcLoop (lcBody (cxF tab n) vs ct cond ce ρ) Jv tab.F 0 [] S1) α1 H1 (PV1 (gx X cl fa) Q) (EW (gx X cl fa) W σ) := q1
  refine ⟨fun i m H' => ∃ α' S' acc vs', Ext α1 H1 α' H' ∧ Rep (gx X cl fa) α' S' H' ∧ D ∉ α' ∧ H' D = some (.lst vs') ∧ RVs X.K α' H' acc vs' ∧
    Wp (gx X cl fa) (lcLoop (lcBody (cxF tab n) vs ct cond ce ρ) Jv m i acc S') α1 H1 (PV1 (gx X cl fa) Q) (EW (gx X cl fa) W σ),
    ⟨tab.F, α1, S1, [], [], Ext.new hD _, r1.new hD _, r1.out hD, upd_same, rfl, q1⟩, ?_⟩
  rintro i m H' ⟨α', S', acc, vs', e, r, hDα, hDl, ra, q⟩
  cases m with
  | zero => exact q.elim
  | succ F =>
    unfold lcLoop at q
    split at q
    · exact q.elim
    · rename_i hx
      refine .inl ⟨(jr α' H' S' i e r).2 hx, ?_⟩
      obtain ⟨β, hβ, hn⟩ := e.pre
      have ex : Ext α1 H1 (α' ++ [D]) H' := ⟨⟨β ++ [D], by rw [hβ, List.append_assoc], fun b hb => by
        rcases List.mem_append.mp hb with z | z
        · exact hn b z
        · simp at z; rw [z]; exact hD⟩, e.keep, e.there, e.tups, e.frzs⟩
      have kp : Kp α' H' (α' ++ [D]) H' := ⟨fun k a h => by rw [List.getElem?_append_left (List.getElem?_eq_some_iff.mp h).1]; exact h, fun _ _ h => h, fun _ _ _ h => h⟩
      refine q.okE ex ?_ _ ⟨D, by rw [← r.len]; simp, rfl⟩
      refine ⟨by simp [r.len], ?_, fun k o hk => ?_⟩
      · rw [List.nodup_append]
        refine ⟨r.nd, by simp, fun b hb d hd z => ?_⟩
        simp at hd
        subst hd z
        exact hDα hb
      · by_cases hlt : k < S'.length
        · rw [List.getElem?_append_left hlt] at hk
          obtain ⟨b, hb, z⟩ := r.ok k o hk
          exact ⟨b, kp.at_ _ _ hb, z.kp kp rfl⟩
        · have hnl : k < (S' ++ [MO.lst acc]).length := (List.getElem?_eq_some_iff.mp hk).1
          have hn2 : k = S'.length := by simp at hnl; omega
          subst hn2
          simp at hk
          subst hk
          exact ⟨D, by rw [← r.len]; simp, vs', hDl, ra.kp kp⟩
    · rename_i x hx
      obtain ⟨go, yl⟩ := (jr α' H' S' i e r).1 x hx
      refine .inr ⟨go, fun H2 => ∃ α2 S2 acc2 vs2, Ext α1 H1 α2 H2 ∧ Rep (gx X cl fa) α2 S2 H2 ∧ D ∉ α2 ∧ H2 D = some (.lst vs2) ∧ RVs X.K α2 H2 acc2 vs2 ∧
        Wp (gx X cl fa) (lcLoop (lcBody (cxF tab n) vs ct cond ce ρ) Jv F (i + 1) acc2 S2) α1 H1 (PV1 (gx X cl fa) Q) (EW (gx X cl fa) W σ), fun H2 h2 => ⟨F, Nat.lt_succ_self F, h2⟩, fun w H2 y => ?_⟩
      obtain ⟨ey, ry, vy⟩ := yl w H2 y
      have qb := (Wp.bind0 q).ext (e.trans ey)
      rw [show lcBody (cxF tab n) vs ct cond ce ρ x S' = ((assignE (cxF tab n) ct x (L3.wipe ρ vs) S').bind fun ρ' S => (testE (cxF tab n) cond ρ' S).bind fun k S => if k then (evalE (cxF tab n) ce ρ' S).bind fun y S => .ok (some y) S else .ok none S) from by
        show ((assignE (cxF tab n) ct x (L3.wipe ρ vs) S').bind _) = _
        congr 1
        funext ρ' S
        unfold testE
        rw [R.bind_assoc], nox_bind] at qb
      have heW : RE (gx X cl fa) α' H2 (L3.wipe ρ vs) (L2.wipe σ vs) := (((he.ext e1).ext (e.trans ey)).wipe vs)
      refine ⟨α', S', L3.wipe ρ vs, x, ry, heW, vy, (qb.bind.noxN _).imp1 fun α3 H3 ρ3 S3 e3 r3 q3 σ3 he3 b3 => ⟨wipe_but b3 hsl, htt _ _ _ ⟨α3, S3, ρ3, r3, he3, ?_⟩⟩⟩
      rw [nox_bind] at q3
      refine (q3.bind.noxE _).imp1 fun α4 H4 k S4 e4 r4 q4 => ?_
      have eD4 : Ext α' H2 α4 H4 := e3.trans e4
      have hD2 : H2 D = some (.lst vs') := ey.keep D _ hDl hDα
      have nD : ∀ {α5 H5}, Ext α' H2 α5 H5 → D ∉ α5 := fun {α5 H5} e5 hm => by
        obtain ⟨β, hβ, hn⟩ := e5.pre
        rw [hβ] at hm
        rcases List.mem_append.mp hm with z | z
        · exact hDα z
        · rw [hn D z] at hD2; cases hD2
      cases k with
      | false =>
        exact ⟨α4, S4, acc, vs', (e.trans ey).trans eD4, r4, nD eD4, eD4.keep D _ hD2 hDα, (ra.ext ey).ext eD4, (show Wp (gx X cl fa) (.ok none S4) α4 H4 _ _ from q4).ok r4⟩
      | true =>
        have q4 : Wp (gx X cl fa) ((evalE (cxF tab n) ce ρ3 S4).bind fun y S => .ok (some y) S).nox α4 H4 _ _ := q4
        rw [nox_bind] at q4
        refine ⟨α4, S4, ρ3, r4, he3.ext e4, (q4.bind.noxE _).imp1 fun α5 H5 y5 S5 e5 r5 q5 w5 v5 => ?_⟩
        have q5 := (show Wp (gx X cl fa) (.ok (some y5) S5) α5 H5 _ _ from q5).ok r5
        have eD5 : Ext α' H2 α5 H5 := eD4.trans e5
        have hD5 := eD5.keep D _ hD2 hDα
        simp only at q5
        split at q5
        · rename_i hl
          have ra5 := (ra.ext ey).ext eD5
          have kp := Kp.priv (α := α5) (o := .lst (vs' ++ [w5])) hD5
          refine ⟨vs', hD5, by rw [← ra.length, ← nsz_eq]; exact hl, α5, S5, acc ++ [y5], vs' ++ [w5], ((e.trans ey).trans eD5).priv hD, r5.kp kp fun b hb => upd_ne fun z => ?_, nD eD5, upd_same, (ra5.kp kp).append ⟨w5, [], rfl, v5.kp kp, rfl⟩, q5⟩
          subst z
          exact nD eD5 hb
        · exact q5.elim
end
end L3
set_option maxRecDepth 100000
/-! L3Snd4: every compiled expression; statements. -/
namespace L3
open PySem PySem.Spec PyProof.Rows L2
section
variable {X : Cx} {T : GT} {tab : Tab} {cl fa : Nat → Addr} {pss : Nat → List Str} {n : Nat} {W : WX} {c : Sc}
theorem CxOk.blk (C : CxOk T tab cl fa pss n X W) (s : Shared) (H : Hp) (scope : Scope) (cenv : PySem.Env) (fp : List Addr) : CxOk T tab cl fa pss n (X.blk s H scope cenv fp) (fun _ _ _ _ => False) :=
  ⟨C.calm, C.nd, C.room, C.nm, C.fns, takes0, PassesOwn.never⟩
theorem ScOk.blk (sc : ScOk c X) (s : Shared) (H : Hp) (scope : Scope) (C : Addr) (cl2 : List (Str × Addr)) (fp : List Addr) : ScOk (innerSc c scope) (X.blk s H scope (compEnvC scope cl2 C X.env) fp) := by
  refine ⟨?_, sc.N, rfl⟩
  show relabel scope X.env = relS scope c.sc
  rw [← sc.sc]
  rfl
theorem s_truth {e : Expr} {f : Env → Store → R PV} (he : PE X e (LE (gx X cl fa) W f)) (hw : ∀ whole, isTrue e X.env whole = (do let v ← whole; standAt e.pos; holding [v] (PySem.truthy v))) :
    PT X e (LTt (gx X cl fa) W fun ρ S => (f ρ S).bind fun x S => ofO (L3.truthy S x) S) := pt_mono (pt_truth he hw) fun σ H Q hh => LTt_of hh
theorem testE_not (cx : Cxi) (a : CE) : testE cx (.nt a) = fun ρ S => (testE cx a ρ S).bind fun k S => .ok (!k) S := by
  funext ρ S
  unfold testE
  simp only [evalE]
  cases evalE cx a ρ S with
  | ok x S1 =>
    simp only [R.bind]
    cases L3.truthy S1 x <;> rfl
  | exc x S1 => rfl
  | stuck => rfl
theorem testE_and (cx : Cxi) (a b : CE) : testE cx (.and a b) = fun ρ S => (testE cx a ρ S).bind fun k S => if k then testE cx b ρ S else .ok false S := by
  funext ρ S
  unfold testE
  simp only [evalE]
  cases evalE cx a ρ S with
  | ok x S1 =>
    simp only [R.bind]
    cases h : L3.truthy S1 x with
    | none => rfl
    | some k => cases k <;> simp [ofO, R.bind, h]
  | exc x S1 => rfl
  | stuck => rfl
theorem testE_or (cx : Cxi) (a b : CE) : testE cx (.or a b) = fun ρ S => (testE cx a ρ S).bind fun k S => if k then .ok true S else testE cx b ρ S := by
  funext ρ S
  unfold testE
  simp only [evalE]
  cases evalE cx a ρ S with
  | ok x S1 =>
    simp only [R.bind]
    cases h : L3.truthy S1 x with
    | none => rfl
    | some k => cases k <;> simp [ofO, R.bind, h]
  | exc x S1 => rfl
  | stuck => rfl
theorem testE_ife (cx : Cxi) (c a b : CE) : testE cx (.ife c a b) = fun ρ S => (testE cx c ρ S).bind fun k S => if k then testE cx a ρ S else testE cx b ρ S := by
  funext ρ S
  unfold testE
  simp only [evalE]
  cases evalE cx c ρ S with
  | ok x S1 =>
    simp only [R.bind]
    cases h : L3.truthy S1 x with
    | none => rfl
    | some k => cases k <;> simp [ofO, R.bind]
  | exc x S1 => rfl
  | stuck => rfl
theorem t_bind {f : Env → Store → R Bool} {h : Bool → Env → Store → R Bool} {σ : L2.St} {H : Hp} {Q : Bool → Hp → Prop} (hh : LTt (gx X cl fa) W (fun ρ S => (f ρ S).bind fun k S => h k ρ S) σ H Q) :
    LTt (gx X cl fa) W f σ H fun k H1 => LTt (gx X cl fa) W (h k) σ H1 Q := by
  obtain ⟨α, S, ρ, hr, he, hw⟩ := hh
  exact ⟨α, S, ρ, hr, he, hw.bind.imp1 fun α1 H1 k S1 e1 r1 q1 => ⟨α1, S1, ρ, r1, he.ext e1, q1⟩⟩
theorem t_ok {b : Bool} {σ : L2.St} {H : Hp} {Q : Bool → Hp → Prop} (hh : LTt (gx X cl fa) W (fun _ S => .ok b S) σ H Q) : Q b H := by
  obtain ⟨α, S, ρ, hr, he, hw⟩ := hh
  exact hw.ok hr
theorem pt_ifE {t a b : Expr} {pos : Pos} {tt ta tb : TT} (ht : PT X t tt) (ha : PT X a ta) (hb : PT X b tb) : PT X (.IfExp t a b pos) (fun σ H Q => tt σ H fun k H1 => if k = true then ta σ H1 Q else tb σ H1 Q) := by
  refine ⟨fun pins s σ H Q I h => ?_⟩
  rw [arm_isTrue_IfExp]
  refine wpAny_bind (thn (ht.run pins s σ H _ I h) fun k s1 ⟨H1, I1, q1⟩ => ?_)
  cases k with
  | true => exact ha.run pins s1 σ H1 Q I1 q1
  | false => exact hb.run pins s1 σ H1 Q I1 q1

/-- what is to be shown at a depth of the compiler -/
structure SndE (T : GT) (tab : Tab) (cl fa : Nat → Addr) (pss : Nat → List Str) (n d : Nat) : Prop where
  e : ∀ {c : Sc} {e : Expr} {ce : CE} {X : Cx} {W : WX}, compE T d c e = some ce → CxOk T tab cl fa pss n X W → ScOk c X → PE X e (LE (gx X cl fa) W (evalE (cxF tab n) ce))
  t : ∀ {c : Sc} {e : Expr} {ce : CE} {X : Cx} {W : WX}, compE T d c e = some ce → CxOk T tab cl fa pss n X W → ScOk c X → PT X e (LTt (gx X cl fa) W (testE (cxF tab n) ce))
  w : ∀ {c : Sc} {op : BoolOp} {vs : List Expr} {pos : Pos} {ce : CE} {X : Cx} {W : WX}, compE T d c (.BoolOp op vs pos) = some ce → CxOk T tab cl fa pss n X W → ScOk c X → PW X (.BoolOp op vs pos) (LTt (gx X cl fa) W (testE (cxF tab n) ce))
  g : ∀ {c : Sc} {e : Expr} {ct : CT} {X : Cx} {W : WX}, compT T d c e = some ct → CxOk T tab cl fa pss n X W → ScOk c X → PG X e (LG (gx X cl fa) ct.slots (assignE (cxF tab n) ct))
  gs : ∀ {c : Sc} {es : List Expr} {ct : CTs} {X : Cx} {W : WX}, compTs T d c es = some ct → CxOk T tab cl fa pss n X W → ScOk c X → PGs X es (LGs (gx X cl fa) ct.slots (assignEs (cxF tab n) ct)) ∧ (assignEach es X.env).length = es.length ∧
    (assignEach es X.env).findIdx? (·.1) = none ∧ ct.len = es.length
  i : ∀ {c : Sc} {e : Expr} {ci : CI} {X : Cx} {W : WX}, compI T d c e = some ci → CxOk T tab cl fa pss n X W → ScOk c X → ∀ tg, PI X tg e (LIt (gx X cl fa) W (iterE (cxF tab n) ci))
theorem slots_name {T : GT} {d : Nat} {c c' : Sc} {x : Str} {pos : Pos} {ct : CT} {i : Nat} (hN : c'.N = c.N) (hi : ixOfN x c.N = some i) (h2 : compT T d c' (.Name x pos) = some ct) : ct.slots = [i] := by
  cases d with
  | zero => cases h2
  | succ d =>
    have h2 : (if locB c' x then (ixOfN x c'.N).map CT.name else none) = some ct := h2
    split at h2
    · rw [hN, hi] at h2
      cases h2
      rfl
    · cases h2
theorem slots_owns {T : GT} {c c' : Sc} (hN : c'.N = c.N) : ∀ {es : List Expr} {d : Nat} {cts : CTs} {own : List (Str × Nat)}, ownsOf c.N es = some own → compTs T d c' es = some cts → ∀ i ∈ cts.slots, i ∈ own.map (·.2)
  | [], d, cts, own, h1, h2 => by
    cases d with
    | zero => cases h2
    | succ d =>
      cases h2
      intro i hi
      cases hi
  | e :: es, d, cts, own, h1, h2 => by
    cases d with
    | zero => cases h2
    | succ d =>
      have h2 : (if isStar e then none else match compT T d c' e, compTs T d c' es with
        | some t, some ts => some (CTs.cons t ts)
        | _, _ => none) = some cts := h2
      cases e with
      | Name x pos =>
        have h1 : (match ixOfN x c.N, ownsOf c.N es with
          | some i, some r => some ((x, i) :: r)
          | _, _ => none) = some own := h1
        split at h1
        · rename_i j r hj hr
          cases h1
          split at h2
          · cases h2
          · split at h2
            · rename_i t ts ht hts
              cases h2
              intro i hi
              have hi : i ∈ t.slots ++ ts.slots := hi
              rcases List.mem_append.mp hi with z | z
              · rw [slots_name hN hj ht] at z
                have : i = j := by simpa using z
                simp [this]
              · have := slots_owns hN hr hts i z
                simp only [List.map_cons, List.mem_cons]
                exact .inr this
            · cases h2
        · cases h1
      | _ => cases h1
theorem slots_own {T : GT} {d : Nat} {c c' : Sc} {tg : Expr} {ct : CT} {own : List (Str × Nat)} (hN : c'.N = c.N) (h1 : ownOf c.N tg = some own) (h2 : compT T d c' tg = some ct) : ∀ i ∈ ct.slots, i ∈ own.map (·.2) := by
  cases tg with
  | Name x pos =>
    have h1 : (ixOfN x c.N).map (fun i => [(x, i)]) = some own := h1
    simp only [Option.map_eq_some_iff] at h1
    obtain ⟨i, hi, rfl⟩ := h1
    rw [slots_name hN hi h2]
    simp
  | Tuple es k pos =>
    cases d with
    | zero => cases h2
    | succ d =>
      have h3 : (compTs T d c' es).map CT.tup = some ct := h2
      simp only [Option.map_eq_some_iff] at h3
      obtain ⟨cts, h4, rfl⟩ := h3
      exact slots_owns hN h1 h4
  | _ => cases h1
theorem noneof {α : Type} {x : α} {P : Prop} (h : (none : Option α) = some x) : P := by cases h
theorem PW_mono {e : Expr} {t t' : TT} (h : PW X e t) (m : ∀ σ H Q, t' σ H Q → t σ H Q) : PW X e t' := pw_mono h m
theorem ifs_parts {d : Nat} (ih : SndE T tab cl fa pss n d) {c : Sc} {ifs : List Expr} {scope : Scope} {k : CE} {X : Cx} {W : WX} (h : compIfs (compE T d (innerSc c scope)) ifs = some k) (C : CxOk T tab cl fa pss n X W) (sc : ScOk c X) :
    ∃ tt : TT, (∀ (s : Shared) (H : Hp) (Cc : Addr) (cl2 : List (Str × Addr)) (fp : List Addr), PTs (X.blk s H scope (compEnvC scope cl2 Cc X.env) fp) ifs tt) ∧
      ∀ σ H Q, LTt (gx X cl fa) (fun _ _ _ _ => False) (testE (cxF tab n) k) σ H Q → tt σ H Q := by
  match ifs, h with
  | [], h =>
    cases h
    exact ⟨tYes, fun s H Cc cl2 fp => pts_nil, fun σ H Q ⟨α, S, ρ, hr, he, hw⟩ => (show Wp (gx X cl fa) (.ok true S) α H (fun _ H' b _ => Q b H') _ from hw).ok hr⟩
  | [f], h => exact ⟨_, fun s H Cc cl2 fp => pts_one (ih.t h (C.blk s H scope _ fp) (sc.blk s H scope Cc cl2 fp)), fun σ H Q hh => hh⟩
  | _ :: _ :: _, h => cases h
theorem lc_parts {d : Nat} (ih : SndE T tab cl fa pss n d) {c : Sc} {elt : Expr} {gens : List Comprehension} {scope : Scope} {ce : CE} {X : Cx} {W : WX} (h : compLc c (compI T d c) (compT T d) (compE T d) elt scope gens = some ce) (C : CxOk T tab cl fa pss n X W) (sc : ScOk c X) :
    ∃ (tg iter : Expr) (ifs : List Expr) (own : List (Str × Nat)) (wi : TI) (gg : TG) (tt : TT) (te : TE), gens = [⟨tg, iter, ifs, 0⟩] ∧ PI X tg iter wi ∧ BlkOk X.N X.env.scope scope own ∧
      (∀ (s : Shared) (H : Hp) (Cc : Addr) (cl2 : List (Str × Addr)) (fp : List Addr), PG (X.blk s H scope (compEnvC scope cl2 Cc X.env) fp) tg gg) ∧
      (∀ (s : Shared) (H : Hp) (Cc : Addr) (cl2 : List (Str × Addr)) (fp : List Addr), PTs (X.blk s H scope (compEnvC scope cl2 Cc X.env) fp) ifs tt) ∧
      (∀ (s : Shared) (H : Hp) (Cc : Addr) (cl2 : List (Str × Addr)) (fp : List Addr), PE (X.blk s H scope (compEnvC scope cl2 Cc X.env) fp) elt te) ∧
      (∀ x, foldedSetIterable iter X.env x = pure x) ∧
      ∀ σ H Q, LE (gx X cl fa) W (evalE (cxF tab n) ce) σ H Q → tLc wi gg tt te (own.map (·.2)) σ H Q := by
  unfold compLc at h
  split at h
  · rename_i tg iter ifs
    split at h
    · cases h
    · rename_i own ho
      split at h
      · cases h
      · rename_i hb
        have hb : blkC c.N c.sc scope own = true ∧ isSet iter = false := by simpa [Bool.or_eq_true, not_or] using hb
        have ok : BlkOk X.N X.env.scope scope own := by
          rw [sc.N, sc.sc]
          exact blkOk_by hb.1
        have hs : ∀ x, foldedSetIterable iter X.env x = pure x := by
          intro x
          have := hb.2
          cases iter <;> first
            | rfl
            | cases this
        split at h
        · rename_i i t x k h1 h2 h3 h4
          cases h
          obtain ⟨tt, q1, q2⟩ := ifs_parts ih h4 C sc
          exact ⟨tg, iter, ifs, own, _, _, tt, _, rfl, ih.i h1 C sc tg, ok, fun s H Cc cl2 fp => ih.g h2 (C.blk s H scope _ fp) (sc.blk s H scope Cc cl2 fp), q1, fun s H Cc cl2 fp => ih.e h3 (C.blk s H scope _ fp) (sc.blk s H scope Cc cl2 fp), hs,
            fun σ H Q hh => lc_read q2 (slots_own (c := c) (c' := innerSc c scope) rfl ho h2) hh⟩
        · cases h
  · cases h
theorem lc_case {d : Nat} (ih : SndE T tab cl fa pss n d) {c : Sc} {elt : Expr} {gens : List Comprehension} {scope : Scope} {pos : Pos} {ce : CE} {X : Cx} {W : WX} (h : compLc c (compI T d c) (compT T d) (compE T d) elt scope gens = some ce) (C : CxOk T tab cl fa pss n X W) (sc : ScOk c X) :
    PE X (.ListComp elt gens scope pos) (LE (gx X cl fa) W (evalE (cxF tab n) ce)) := by
  obtain ⟨tg, iter, ifs, own, wi, gg, tt, te, rfl, p1, p2, p3, p4, p5, p6, p7⟩ := lc_parts ih h C sc
  exact pe_mono (pe_lc C.calm C.nd p1 p2 p3 p4 p5 p6) p7
theorem cmp_case {d : Nat} (ih : SndE T tab cl fa pss n d) {c : Sc} {a : Expr} {ops : List CmpOp} {bs : List Expr} {pos : Pos} {ce : CE} {X : Cx} {W : WX} (h : compCmp (compE T d c) a ops bs = some ce) (C : CxOk T tab cl fa pss n X W) (sc : ScOk c X) :
    PE X (.Compare a ops bs pos) (LE (gx X cl fa) W (evalE (cxF tab n) ce)) ∧ PT X (.Compare a ops bs pos) (LTt (gx X cl fa) W (testE (cxF tab n) ce)) := by
  unfold compCmp at h
  split at h
  · split at h
    · cases h
    · rename_i hs
      split at h
      · rename_i x o y h1 h2 h3
        cases h
        rw [copC_ok h2]
        exact ⟨s_cmp C (ih.e h1 C sc) (ih.e h3 C sc) (by simpa using hs), t_cmp C (ih.e h1 C sc) (ih.e h3 C sc) (by simpa using hs)⟩
      · cases h
  · split at h
    · cases h
    · rename_i hs
      split at h
      · rename_i x p y q z h1 h2 h3 h4 h5
        cases h
        rw [copC_ok h2, copC_ok h4]
        exact ⟨s_chn C (ih.e h1 C sc) (ih.e h3 C sc) (ih.e h5 C sc) (by simpa using hs), t_chn C (ih.e h1 C sc) (ih.e h3 C sc) (ih.e h5 C sc) (by simpa using hs)⟩
      · cases h
  · cases h
theorem sub_case {d : Nat} (ih : SndE T tab cl fa pss n d) {c : Sc} {a b : Expr} {pos : Pos} {ce : CE} {X : Cx} {W : WX} (h : compSub (compE T d c) a b = some ce) (C : CxOk T tab cl fa pss n X W) (sc : ScOk c X) :
    PE X (.Subscript a b pos) (LE (gx X cl fa) W (evalE (cxF tab n) ce)) := by
  unfold compSub at h
  split at h
  · split at h
    · rename_i x l u h1 h2 h3
      cases h
      obtain ⟨tl, p1, p2⟩ := s_opt (W := W) (fun e ce q => ih.e q C sc) h2
      obtain ⟨th, q1, q2⟩ := s_opt (W := W) (fun e ce q => ih.e q C sc) h3
      exact s_slc (ih.e h1 C sc) p1 p2 q1 q2
    · cases h
  · split at h
    · cases h
    · rename_i hs
      split at h
      · rename_i x y h1 h2
        cases h
        exact s_idx (ih.e h1 C sc) (ih.e h2 C sc) (by simpa using hs)
      · cases h
theorem isi_case {d : Nat} (ih : SndE T tab cl fa pss n d) {c : Sc} {args : List Expr} {p pos : Pos} {ce : CE} {X : Cx} {W : WX} (h : compIsi c (compE T d c) args = some ce) (hg : Gl X "isinstance") (C : CxOk T tab cl fa pss n X W) (sc : ScOk c X) :
    PE X (.Call (.Name "isinstance" p) args [] pos) (LE (gx X cl fa) W (evalE (cxF tab n) ce)) := by
  unfold compIsi at h
  split at h
  · rename_i a t q
    split at h
    · cases h
    · rename_i hq
      have hq : isStar a = false ∧ plainN t = true ∧ glbB c.sc t = true := by simpa [Bool.or_eq_true, not_or] using hq
      split at h
      · rename_i z ty h1 h2
        cases h
        have et : t = tyN ty := by
          unfold tyOf at h2
          repeat (first
            | (split at h2; · (rename_i e; cases h2; exact e))
            | (cases h2; done))
        subst et
        exact s_isi C (ih.e h1 C sc) hq.1 hg (glbB_ok sc hq.2.2) (by cases ty <;> decide +kernel) (plainN_ok hq.2.1).1
      · cases h
  · cases h
theorem call_case {d : Nat} (ih : SndE T tab cl fa pss n d) {c : Sc} {x : Str} {args : List Expr} {p pos : Pos} {ce : CE} {X : Cx} {W : WX} (h : compCall T c (compE T d c) x args = some ce) (C : CxOk T tab cl fa pss n X W) (sc : ScOk c X) :
    PE X (.Call (.Name x p) args [] pos) (LE (gx X cl fa) W (evalE (cxF tab n) ce)) := by
  have lst : ∀ {es : List Expr} {ces : CEs}, listM (compE T d c) es = some ces → PA X es (LA (gx X cl fa) W (evalEs (cxF tab n) ces)) := fun h => s_list (fun e ce q => ih.e q C sc) h
  unfold compCall at h
  split at h
  · cases h
  · rename_i hp
    have hp : plainN x = true ∧ glbB c.sc x = true := by simpa using hp
    have hd := (plainN_ok hp.1).1
    have hg := glbB_ok sc hp.2
    split at h
    · rename_i hx
      subst hx
      exact isi_case ih h hg C sc
    · split at h
      · rename_i f hf
        simp only [Option.map_eq_some_iff] at h
        obtain ⟨ces, h1, rfl⟩ := h
        cases args with
        | nil =>
          cases h1
          exact s_cal0 C hf hg hd
        | cons e es =>
          obtain ⟨c1, cs, a1, a2, rfl, a4⟩ := listM_cons h1
          exact s_cal C hf hg hd (lst h1) a4 (listM_star X.env pos a2)
      · split at h
        · rename_i b hb
          cases args with
          | nil => cases h
          | cons e es =>
            have h : (listM (compE T d c) (e :: es)).map (CE.bf b) = some ce := h
            simp only [Option.map_eq_some_iff] at h
            obtain ⟨ces, h1, rfl⟩ := h
            obtain ⟨c1, cs, a1, a2, rfl, a4⟩ := listM_cons h1
            have ex := bfOf_ok hb
            subst ex
            exact s_bf C hg hd (lst h1) a4 (listM_star X.env pos a2)
        · cases h
set_option maxHeartbeats 1000000 in
theorem snd_e {d : Nat} (ih : SndE T tab cl fa pss n d) {c : Sc} {e : Expr} {ce : CE} {X : Cx} {W : WX} (h : compE T (d + 1) c e = some ce) (C : CxOk T tab cl fa pss n X W) (sc : ScOk c X) : PE X e (LE (gx X cl fa) W (evalE (cxF tab n) ce)) := by
  have lst : ∀ {es : List Expr} {ces : CEs}, listM (compE T d c) es = some ces → PA X es (LA (gx X cl fa) W (evalEs (cxF tab n) ces)) := fun h => s_list (fun e ce q => ih.e q C sc) h
  cases e with
  | Name x pos => exact s_name C sc h
  | Constant k j pos => exact s_const h
  | Tuple es k pos =>
    have h : (listM (compE T d c) es).map CE.tup = some ce := h
    simp only [Option.map_eq_some_iff] at h
    obtain ⟨ces, h1, rfl⟩ := h
    exact s_tup (lst h1)
  | List es pos =>
    have h : (listM (compE T d c) es).map CE.lst = some ce := h
    simp only [Option.map_eq_some_iff] at h
    obtain ⟨ces, h1, rfl⟩ := h
    exact s_lst (lst h1)
  | BinOp a op b pos =>
    have h : (match compE T d c a, bopC op, compE T d c b with
      | some x, some o, some y => some (CE.bin o x y)
      | _, _, _ => none) = some ce := h
    split at h
    · rename_i x o y h1 h2 h3
      cases h
      rw [bopC_ok h2]
      exact s_bin (ih.e h1 C sc) (ih.e h3 C sc)
    · cases h
  | UnaryOp op a pos =>
    cases op with
    | USub =>
      have h : (compE T d c a).map CE.neg = some ce := h
      simp only [Option.map_eq_some_iff] at h
      obtain ⟨x, h1, rfl⟩ := h
      exact s_neg (ih.e h1 C sc)
    | Not =>
      have h : (compE T d c a).map CE.nt = some ce := h
      simp only [Option.map_eq_some_iff] at h
      obtain ⟨x, h1, rfl⟩ := h
      exact s_not (ih.e h1 C sc)
    | _ => exact noneof h
  | BoolOp op vs pos =>
    cases vs with
    | nil => cases op <;> exact noneof h
    | cons a vs =>
      cases vs with
      | nil =>
        have h : compE T d c a = some ce := by cases op <;> exact h
        exact pe_one (ih.e h C sc)
      | cons b r =>
        cases op with
        | And =>
          have h : (match compE T d c a, compE T d c (.BoolOp .And (b :: r) pos) with
            | some x, some y => some (CE.and x y)
            | _, _ => none) = some ce := h
          split at h
          · rename_i x y h1 h2
            cases h
            exact s_and (ih.e h1 C sc) (ih.e h2 C sc)
          · cases h
        | Or =>
          have h : (match compE T d c a, compE T d c (.BoolOp .Or (b :: r) pos) with
            | some x, some y => some (CE.or x y)
            | _, _ => none) = some ce := h
          split at h
          · rename_i x y h1 h2
            cases h
            exact s_or (ih.e h1 C sc) (ih.e h2 C sc)
          · cases h
  | IfExp t a b pos =>
    have h : (match compE T d c t, compE T d c a, compE T d c b with
      | some z, some x, some y => some (CE.ife z x y)
      | _, _, _ => none) = some ce := h
    split at h
    · rename_i z x y h1 h2 h3
      cases h
      exact s_ife (ih.t h1 C sc) (ih.e h2 C sc) (ih.e h3 C sc)
    · cases h
  | Compare a ops bs pos => exact (cmp_case ih h C sc).1
  | Subscript a b pos => exact sub_case ih h C sc
  | Call f args kws pos =>
    cases f with
    | Name x p =>
      cases kws with
      | cons _ _ => exact noneof h
      | nil => exact call_case ih h C sc
    | _ => exact noneof h
  | ListComp elt gens scope pos => exact lc_case ih h C sc
  | _ => exact noneof h
theorem snd_w {d : Nat} (ih : SndE T tab cl fa pss n d) {c : Sc} {op : BoolOp} {vs : List Expr} {pos : Pos} {ce : CE} {X : Cx} {W : WX} (h : compE T (d + 1) c (.BoolOp op vs pos) = some ce) (C : CxOk T tab cl fa pss n X W) (sc : ScOk c X) :
    PW X (.BoolOp op vs pos) (LTt (gx X cl fa) W (testE (cxF tab n) ce)) := by
  cases vs with
  | nil => cases op <;> exact noneof h
  | cons a vs =>
    cases vs with
    | nil =>
      cases op with
      | And => exact pw_and1 (ih.t h C sc)
      | Or => exact pw_or1 (ih.t h C sc)
    | cons b r =>
      cases op with
      | And =>
        have h : (match compE T d c a, compE T d c (.BoolOp .And (b :: r) pos) with
          | some x, some y => some (CE.and x y)
          | _, _ => none) = some ce := h
        split at h
        · rename_i x y h1 h2
          cases h
          refine pw_mono (pw_and (ih.t h1 C sc) (ih.w h2 C sc)) fun σ H Q hh => ?_
          rw [testE_and] at hh
          obtain ⟨α, S, ρ, hr, he, hw⟩ := t_bind (h := fun k ρ S => if k then testE (cxF tab n) y ρ S else .ok false S) hh
          refine ⟨α, S, ρ, hr, he, hw.imp1 fun α1 H1 k S1 e1 r1 q1 => ?_⟩
          cases k with
          | true => exact q1
          | false => exact t_ok q1
        · cases h
      | Or =>
        have h : (match compE T d c a, compE T d c (.BoolOp .Or (b :: r) pos) with
          | some x, some y => some (CE.or x y)
          | _, _ => none) = some ce := h
        split at h
        · rename_i x y h1 h2
          cases h
          refine pw_mono (pw_or (ih.t h1 C sc) (ih.w h2 C sc)) fun σ H Q hh => ?_
          rw [testE_or] at hh
          obtain ⟨α, S, ρ, hr, he, hw⟩ := t_bind (h := fun k ρ S => if k then .ok true S else testE (cxF tab n) y ρ S) hh
          refine ⟨α, S, ρ, hr, he, hw.imp1 fun α1 H1 k S1 e1 r1 q1 => ?_⟩
          cases k with
          | true => exact t_ok q1
          | false => exact q1
        · cases h
theorem snd_t {d : Nat} (ih : SndE T tab cl fa pss n d) {c : Sc} {e : Expr} {ce : CE} {X : Cx} {W : WX} (h : compE T (d + 1) c e = some ce) (C : CxOk T tab cl fa pss n X W) (sc : ScOk c X) : PT X e (LTt (gx X cl fa) W (testE (cxF tab n) ce)) := by
  have gen := snd_e (W := W) ih h C sc
  cases e with
  | UnaryOp op a pos =>
    cases op with
    | Not =>
      have h : (compE T d c a).map CE.nt = some ce := h
      simp only [Option.map_eq_some_iff] at h
      obtain ⟨x, h1, rfl⟩ := h
      refine pt_mono (pt_not (ih.t h1 C sc)) fun σ H Q hh => ?_
      rw [testE_not] at hh
      obtain ⟨α, S, ρ, hr, he, hw⟩ := t_bind (h := fun k ρ S => .ok (!k) S) hh
      exact ⟨α, S, ρ, hr, he, hw.imp1 fun α1 H1 k S1 e1 r1 q1 => t_ok q1⟩
    | _ => exact s_truth gen (fun _ => rfl)
  | BoolOp op vs pos => exact (snd_w ih h C sc).pt
  | IfExp t a b pos =>
    have h : (match compE T d c t, compE T d c a, compE T d c b with
      | some z, some x, some y => some (CE.ife z x y)
      | _, _, _ => none) = some ce := h
    split at h
    · rename_i z x y h1 h2 h3
      cases h
      refine pt_mono (pt_ifE (ih.t h1 C sc) (ih.t h2 C sc) (ih.t h3 C sc)) fun σ H Q hh => ?_
      rw [testE_ife] at hh
      obtain ⟨α, S, ρ, hr, he, hw⟩ := t_bind (h := fun k ρ S => if k then testE (cxF tab n) x ρ S else testE (cxF tab n) y ρ S) hh
      refine ⟨α, S, ρ, hr, he, hw.imp1 fun α1 H1 k S1 e1 r1 q1 => ?_⟩
      cases k with
      | true => exact q1
      | false => exact q1
    · cases h
  | Compare a ops bs pos => exact (cmp_case ih h C sc).2
  | _ => exact s_truth gen (fun _ => rfl)
theorem snd_g {d : Nat} (ih : SndE T tab cl fa pss n d) {c : Sc} {e : Expr} {ct : CT} {X : Cx} {W : WX} (h : compT T (d + 1) c e = some ct) (C : CxOk T tab cl fa pss n X W) (sc : ScOk c X) : PG X e (LG (gx X cl fa) ct.slots (assignE (cxF tab n) ct)) := by
  cases e with
  | Name x pos =>
    have h : (if locB c x then (ixOfN x c.N).map CT.name else none) = some ct := h
    split at h
    · rename_i hl
      simp only [Option.map_eq_some_iff] at h
      obtain ⟨i, hi, rfl⟩ := h
      exact g_name C sc hl hi
    · cases h
  | Tuple es k pos =>
    have h : (compTs T d c es).map CT.tup = some ct := h
    simp only [Option.map_eq_some_iff] at h
    obtain ⟨ts, h1, rfl⟩ := h
    obtain ⟨q1, q2, q3, q4⟩ := ih.gs h1 C sc
    exact g_tup C q1 q2 q3 fun xs ρ S hl => assignEs_bad _ ts xs ρ S (by rw [q4]; exact hl)
  | Subscript o i pos =>
    have h : (if isSlice i then none else match compE T d c o, compE T d c i with
      | some x, some y => some (CT.sub x y)
      | _, _ => none) = some ct := h
    split at h
    · cases h
    · rename_i hs
      split at h
      · rename_i x y h1 h2
        cases h
        exact g_sub C (ih.e h1 C sc) (ih.e h2 C sc) (by simpa using hs)
      · cases h
  | _ => exact noneof h
theorem snd_gs {d : Nat} (ih : SndE T tab cl fa pss n d) {c : Sc} {es : List Expr} {ct : CTs} {X : Cx} {W : WX} (h : compTs T (d + 1) c es = some ct) (C : CxOk T tab cl fa pss n X W) (sc : ScOk c X) :
    PGs X es (LGs (gx X cl fa) ct.slots (assignEs (cxF tab n) ct)) ∧ (assignEach es X.env).length = es.length ∧ (assignEach es X.env).findIdx? (·.1) = none ∧ ct.len = es.length := by
  cases es with
  | nil =>
    cases h
    exact ⟨gs_nil, rfl, rfl, rfl⟩
  | cons e es =>
    have h : (if isStar e then none else match compT T d c e, compTs T d c es with
      | some t, some ts => some (CTs.cons t ts)
      | _, _ => none) = some ct := h
    split at h
    · cases h
    · rename_i hst
      split at h
      · rename_i t ts h1 h2
        cases h
        obtain ⟨q1, q2, q3, q4⟩ := ih.gs h2 C sc
        have ea : assignEach (e :: es) X.env = (false, assign e X.env) :: assignEach es X.env := by
          cases e <;> first
            | rfl
            | exact absurd rfl hst
        refine ⟨gs_cons (ih.g h1 C sc) q1 (by rw [ea]; rfl), by rw [ea]; simp [q2], ?_, by simp [CTs.len, q4]⟩
        rw [ea, List.findIdx?_cons]
        simp [q3]
      · cases h
theorem snd_i {d : Nat} (ih : SndE T tab cl fa pss n d) {c : Sc} {e : Expr} {ci : CI} {X : Cx} {W : WX} (h : compI T (d + 1) c e = some ci) (C : CxOk T tab cl fa pss n X W) (sc : ScOk c X) (tg : Expr) : PI X tg e (LIt (gx X cl fa) W (iterE (cxF tab n) ci)) := by
  have gen : (compE T d c e).map CI.seq = some ci → PI X tg e (LIt (gx X cl fa) W (iterE (cxF tab n) ci)) := fun h => by
    simp only [Option.map_eq_some_iff] at h
    obtain ⟨ce, h1, rfl⟩ := h
    exact s_iseq (ih.e h1 C sc)
  cases e with
  | Call f args kws pos =>
    cases f with
    | Name x p =>
      cases kws with
      | cons _ _ => exact gen h
      | nil =>
        have h : (if x = "range" then (if !(plainN x && glbB c.sc x) then none else compRng (compE T d c) args) else (compE T d c (.Call (.Name x p) args [] pos)).map CI.seq) = some ci := h
        split at h
        · rename_i hx
          subst hx
          split at h
          · cases h
          · rename_i hp
            have hp : plainN "range" = true ∧ glbB c.sc "range" = true := by simpa using hp
            have hg := glbB_ok sc hp.2
            unfold compRng at h
            split at h
            · split at h
              · cases h
              · rename_i hst
                simp only [Option.map_eq_some_iff] at h
                obtain ⟨ce, h1, rfl⟩ := h
                exact s_rng C hg (by simpa using hst) (ih.e h1 C sc)
            · split at h
              · cases h
              · rename_i a b _ hst
                have hst : isStar a = false ∧ isStar b = false := by simpa [Bool.or_eq_true, not_or] using hst
                split at h
                · rename_i x y h1 h2
                  cases h
                  exact s_rng2 C hg hst.1 hst.2 (ih.e h1 C sc) (ih.e h2 C sc)
                · cases h
            · cases h
        · exact gen h
    | _ => exact gen h
  | _ => exact gen h
theorem snd_all : ∀ d, SndE T tab cl fa pss n d
  | 0 => ⟨fun h => noneof h, fun h => noneof h, fun h => noneof h, fun h => noneof h, fun h => noneof h, fun h => noneof h⟩
  | d + 1 => ⟨snd_e (snd_all d), snd_t (snd_all d), snd_w (snd_all d), snd_g (snd_all d), fun h => snd_gs (snd_all d) h, snd_i (snd_all d)⟩
end
end L3
set_option maxRecDepth 100000
/-! L3Snd5: statements. -/
namespace L3
open PySem PySem.Spec PyProof.Rows L2
def PF (g : G) (D : Ends) (α : List Addr) (H : Hp) : Fl → Prop
  | .nx ρ => ∀ σ', RE g α H ρ σ' → D.nx σ' H
  | .rt v => ∀ w, RV g.K α H v w → D.rt w H
  | .bk ρ => ∀ σ', RE g α H ρ σ' → D.bk σ' H
  | .ct ρ => ∀ σ', RE g α H ρ σ' → D.ct σ' H
def WpS (g : G) (W : WX) (r : RS) (α : List Addr) (H : Hp) (D : Ends) : Prop := match r with
  | .ok fl S => Pst g α H (fun α' H' fl _ => PF g D α' H' fl) fl S
  | .exc x ρ S => Pst g α H (fun α' H' x _ => ∀ σ', RE g α' H' ρ σ' → ∀ c d, RX g x c d α' H' → W c d σ' H') x S
  | .stuck => False
def LS (g : G) (W : WX) (f : Env → Store → RS) : TS := fun D σ H => ∃ α S ρ, Rep g α S H ∧ RE g α H ρ σ ∧ WpS g W (f ρ S) α H D
section
variable {g : G} {W : WX} {α α' : List Addr} {H H' : Hp} {D D' : Ends} {r : RS}
theorem WpS.ext (h : WpS g W r α H D) (e : Ext α H α' H') : WpS g W r α' H' D := by
  cases r with
  | ok b S => exact fun α2 H2 e2 r2 => h α2 H2 (e.trans e2) r2
  | exc x ρ S => exact fun α2 H2 e2 r2 => h α2 H2 (e.trans e2) r2
  | stuck => exact h
theorem WpS.at {β : Type} {q : R β} {ρ : Env} {σ : L2.St} {f : β → Store → RS} (h : WpS g W (q.at ρ f) α H D) (he : RE g α H ρ σ) : Wp g q α H (fun α' H' b S => WpS g W (f b S) α' H' D) (EW g W σ) := by
  cases q with
  | ok b S => exact fun α' H' e r => WpS.ext (show WpS g W (f b S) α H D from h) e
  | exc x S => exact fun α' H' e r c d hx => (show Pst g α H (fun α' H' x _ => ∀ σ', RE g α' H' ρ σ' → ∀ c d, RX g x c d α' H' → W c d σ' H') x S from h) α' H' e r σ (he.ext e) c d hx
  | stuck => exact h
/-- a statement's end, by the ends -/
theorem WpS.imp (h : WpS g W r α H D) (hp : ∀ fl S, r = .ok fl S → ∀ α' H', Ext α H α' H' → Rep g α' S H' → PF g D α' H' fl → PF g D' α' H' fl) : WpS g W r α H D' := by
  cases r with
  | ok fl S => exact fun α' H' e q => hp fl S rfl α' H' e q (h α' H' e q)
  | exc x ρ S => exact h
  | stuck => exact h
/-- bind -/
theorem WpS.bind {f : Fl → Store → RS} (h : WpS g W (r.bind f) α H D) (hp : ∀ fl S, r = .ok fl S → ∀ α' H', Ext α H α' H' → Rep g α' S H' → WpS g W (f fl S) α' H' D → PF g D' α' H' fl) : WpS g W r α H D' := by
  cases r with
  | ok fl S => exact fun α' H' e q => hp fl S rfl α' H' e q (WpS.ext (show WpS g W (f fl S) α H D from h) e)
  | exc x ρ S => exact h
  | stuck => exact h
theorem WpS.nx {ρ : Env} {S : Store} (h : WpS g W (.ok (.nx ρ) S) α H D) (hr : Rep g α S H) {σ : L2.St} (he : RE g α H ρ σ) : D.nx σ H := h α H (Ext.refl _ _) hr σ he
theorem WpS.bk {ρ : Env} {S : Store} (h : WpS g W (.ok (.bk ρ) S) α H D) (hr : Rep g α S H) {σ : L2.St} (he : RE g α H ρ σ) : D.bk σ H := h α H (Ext.refl _ _) hr σ he
theorem WpS.ct {ρ : Env} {S : Store} (h : WpS g W (.ok (.ct ρ) S) α H D) (hr : Rep g α S H) {σ : L2.St} (he : RE g α H ρ σ) : D.ct σ H := h α H (Ext.refl _ _) hr σ he
theorem WpS.rt {v : PV} {S : Store} (h : WpS g W (.ok (.rt v) S) α H D) (hr : Rep g α S H) {w : V} (he : RV g.K α H v w) : D.rt w H := h α H (Ext.refl _ _) hr w he
end
section
variable {X : Cx} {st : Stmt}
theorem ps_mono {t t' : TS} (h : PS X st t) (m : ∀ D σ H, t' D σ H → t D σ H) : PS X st t' := ⟨fun pins s σ H D I q => h.run pins s σ H D I (m D σ H q)⟩
theorem pss_mono {sts : List Stmt} {t t' : TS} (h : PSs X sts t) (m : ∀ D σ H, t' D σ H → t D σ H) : PSs X sts t' := ⟨fun pins s σ H D I q => h.run pins s σ H D I (m D σ H q)⟩
end
section
variable {X : Cx} {T : GT} {tab : Tab} {cl fa : Nat → Addr} {pss : Nat → List Str} {n : Nat} {W : WX} {c : Sc}
/-- a value stored in a target -/
theorem ls_asg {t : CT} {ce : CE} {D : Ends} {σ : L2.St} {H : Hp} (hh : LS (gx X cl fa) W (execS (cxF tab n) (.asg t ce)) D σ H) :
    LE (gx X cl fa) W (evalE (cxF tab n) ce) σ H fun x H1 => LG (gx X cl fa) t.slots (assignE (cxF tab n) t) x σ H1 D.nx := by
  obtain ⟨α, S, ρ, hr, he, hw⟩ := hh
  unfold execS at hw
  refine ⟨α, S, ρ, hr, he, (hw.at he).imp1 fun α1 H1 v S1 e1 r1 q1 w1 v1 => ⟨α1, S1, ρ, v, r1, he.ext e1, v1, ?_⟩⟩
  cases ha : assignE (cxF tab n) t v ρ S1 with
  | ok ρ' S2 =>
    rw [ha] at q1
    exact fun α' H' e r σ' he' _ => WpS.nx (WpS.ext (show WpS (gx X cl fa) W (.ok (.nx ρ') S2) α1 H1 D from q1) e) r he'
  | exc x S2 => rw [ha] at q1; exact q1.elim
  | stuck => rw [ha] at q1; exact q1.elim
theorem swaps_no {e : Expr} {t : Option Expr} {l : Nat} {env : PySem.Env} (h : isLc e = false) : swapsWith e t l env = pure false := by
  cases e <;> first
    | rfl
    | cases h
theorem swapped_no {e tg : Expr} {env : PySem.Env} (h : isTupE e = false) : swappedStores [tg] e env = pure none := by
  cases e <;> first
    | (cases h; done)
    | (cases tg <;> rfl)
theorem swaps_lc {c : Sc} {elt : Expr} {gens : List Comprehension} {scope : Scope} {pos py : Pos} {y : Str} {l : Nat} {env : PySem.Env} (hs : env.scope = c.sc) (hk : env.scope.kind = .function) :
    swapsWith (.ListComp elt gens scope pos) (some (.Name y py)) l env = pure (swapB c y py (.ListComp elt gens scope pos)) := by
  have hb : env.blockKind = .function := by unfold Env.blockKind; rw [hk]; rfl
  have hy : (env.kindOf y == some NameKind.local) = (match c.sc.names.lookup y with | some .local => true | _ => false) := by
    unfold Env.kindOf
    rw [hs]
    cases c.sc.names.lookup y with
    | none => rfl
    | some k => cases k <;> rfl
  unfold swapsWith swapB
  simp only [hb, hy, Expr.pos]
  rfl
theorem kind_of {pins : List (Addr × Obj)} {σ : L2.St} {H : Hp} {s : Shared} (I : Inv X pins σ H s) : X.env.scope.kind = .function := I.ok.kind
theorem ps_of_inv {t : TS} {st : Stmt} (h : X.env.scope.kind = .function → PS X st t) : PS X st t := ⟨fun pins s σ H D I q => (h (kind_of I)).run pins s σ H D I q⟩
theorem locals_of (sc : ScOk c X) {y : Str} (h : (match c.sc.names.lookup y with | some .local => true | _ => false) = true) : X.env.scope.names.lookup y = some .local := by
  rw [sc.sc]
  split at h <;> simp_all
theorem s_asgName {d : Nat} (C : CxOk T tab cl fa pss n X W) (sc : ScOk c X) {y : Str} {py pos : Pos} {e : Expr} {i : Nat} {ce : CE} (hl : locB c y = true) (hi : ixOfN y c.N = some i) (he : compE T d c e = some ce) (hs : isLc e = swapB c y py e) :
    PS X (.Assign [.Name y py] e pos) (LS (gx X cl fa) W (execS (cxF tab n) (.asg (.name i) ce))) := by
  refine ps_of_inv fun hk => ?_
  obtain ⟨l1, l2⟩ := locB_ok sc hl
  have hN : X.N[i]? = some y := by rw [sc.N]; exact ixOfN_ok hi
  have fin : ∀ {D : Ends} {σ : L2.St} {H : Hp} {x : V}, LG (gx X cl fa) (CT.name i).slots (assignE (cxF tab n) (.name i)) x σ H D.nx → gName i x σ H D.nx := fun {D σ H x} ⟨α, S, ρ, v, hr, he, hv, hw⟩ => by
    unfold assignE at hw
    split at hw
    · refine (show Wp (gx X cl fa) (.ok (ρ.set i (some v)) S) α H (fun α' H' ρ' _ => ∀ σ', RE (gx X cl fa) α' H' ρ' σ' → ButSl [i] σ σ' → D.nx σ' H') (fun _ _ _ _ => False) from hw).ok hr _ (he.set hv) ⟨by simp, fun j hj => ?_⟩
      rw [List.getElem?_set_ne]
      intro z
      exact hj (by simp [z])
    · exact hw.elim
  by_cases hlc : isLc e = true
  · cases e <;> first
      | (cases hlc; done)
      | skip
    · rename_i elt gens scope p2
      rw [hlc] at hs
      have hy : X.env.scope.names.lookup y = some .local := by
        have hs : ((match c.sc.names.lookup y with | some .local => true | _ => false) && (py.line == p2.line) && !(scope.names.any fun (n, k) => n == y && (k == .local || k == .cell))) = true := hs.symm
        simp only [Bool.and_eq_true] at hs
        exact locals_of sc hs.1.1
      cases d with
      | zero => cases he
      | succ d =>
        obtain ⟨tg, iter, ifs, own, wi, gg, tt, te, rfl, p1, p2, p3, p4, p5, p6, p7⟩ := lc_parts (W := W) (snd_all d) he C sc
        refine ps_mono (ps_setLc C.calm C.nd hN hy (by rw [swaps_lc sc.sc hk, ← hs]) p1 p2 p3 p4 p5 p6) fun D σ H hh => ?_
        refine p7 _ _ _ ?_
        have := ls_asg hh
        obtain ⟨α, S, ρ, hr, h1, hw⟩ := this
        exact ⟨α, S, ρ, hr, h1, hw.imp1 fun α1 H1 v S1 e1 r1 q1 w1 v1 => fin (q1 w1 v1)⟩
    · cases hs
    · cases hs
  · have hlc : isLc e = false := by simpa using hlc
    refine ps_mono (ps_set C.nd hN l1 ((snd_all d).e he C sc) (swaps_no hlc) l2) fun D σ H hh => ?_
    obtain ⟨α, S, ρ, hr, h1, hw⟩ := ls_asg hh
    exact ⟨α, S, ρ, hr, h1, hw.imp1 fun α1 H1 v S1 e1 r1 q1 w1 v1 => fin (q1 w1 v1)⟩
theorem s_asg {d : Nat} (C : CxOk T tab cl fa pss n X W) (sc : ScOk c X) {tg e : Expr} {pos : Pos} {t : CT} {ce : CE} (ht : compT T d c tg = some t) (he : compE T d c e = some ce) (h1 : isLc e = false) (h2 : isTupE e = false) :
    PS X (.Assign [tg] e pos) (LS (gx X cl fa) W (execS (cxF tab n) (.asg t ce))) := by
  have hst : isStar tg = false := by
    cases d with
    | zero => cases ht
    | succ d => cases tg <;> first
      | rfl
      | exact noneof ht
  refine ps_mono (ps_asg ((snd_all d).e he C sc) ((snd_all d).g (W := W) ht C sc) (swaps_no h1) (swapped_no h2) (by
    cases tg <;> first
      | rfl
      | cases hst)) fun D σ H hh => ls_asg hh
theorem s_aug {d : Nat} (C : CxOk T tab cl fa pss n X W) (sc : ScOk c X) {y : Str} {py pos : Pos} {e : Expr} {i : Nat} {ce : CE} {op : BOp} (ho : op = .add ∨ op = .sub) (hl : locB c y = true) (hi : ixOfN y c.N = some i) (he : compE T d c e = some ce) :
    PS X (.AugAssign (.Name y py) (bopO op) e pos) (LS (gx X cl fa) W (execS (cxF tab n) (.aug i op ce))) := by
  obtain ⟨l1, l2⟩ := locB_ok sc hl
  have hN : X.N[i]? = some y := by rw [sc.N]; exact ixOfN_ok hi
  have core : ∀ {ti : TIp}, (∀ (a b : Int) H Q, Q (.int (match op with | .add => a + b | _ => a - b)) H → ti (.int a) (.int b) H Q) → PIp X (bopO op) ti → PS X (.AugAssign (.Name y py) (bopO op) e pos) (LS (gx X cl fa) W (execS (cxF tab n) (.aug i op ce))) := fun {ti} hti hp => by
    refine ps_mono (ps_aug C.nd hN l1 ((snd_all d).e he C sc) hp l2) fun D σ H ⟨α, S, ρ, hr, h1, hw⟩ => ?_
    unfold execS at hw
    unfold getV at hw
    split at hw
    · rename_i v hv
      obtain ⟨w, a1, a2⟩ := h1.at_ i v hv
      have hw : WpS (gx X cl fa) W ((evalE (cxF tab n) ce ρ S).at ρ _) α H D := hw
      refine ⟨w, a1, α, S, ρ, hr, h1, (hw.at h1).imp1 fun α1 H1 y S1 e1 r1 q1 w1 v1 => ?_⟩
      have a3 := a2.ext e1
      rcases ho with rfl | rfl
      · cases v <;> first
          | exact q1.elim
          | skip
        cases y <;> first
          | exact q1.elim
          | skip
        cases a3; cases v1
        exact hti _ _ _ _ (WpS.nx (show WpS (gx X cl fa) W (.ok (.nx (ρ.set i (some (.int _)))) S1) α1 H1 D from q1) r1 ((h1.ext e1).set rfl))
      · cases v <;> first
          | exact q1.elim
          | skip
        cases y <;> first
          | exact q1.elim
          | skip
        cases a3; cases v1
        exact hti _ _ _ _ (WpS.nx (show WpS (gx X cl fa) W (.ok (.nx (ρ.set i (some (.int _)))) S1) α1 H1 D from q1) r1 ((h1.ext e1).set rfl))
    · exact hw.elim
  rcases ho with rfl | rfl
  · exact core (fun a b H Q q => ⟨a, b, rfl, rfl, q⟩) ip_add
  · exact core (fun a b H Q q => ⟨a, b, rfl, rfl, q⟩) ip_sub
/-- what is to be shown of statements -/
structure SndS (T : GT) (tab : Tab) (cl fa : Nat → Addr) (pss : Nat → List Str) (n d : Nat) : Prop where
  s : ∀ {c : Sc} {s : Stmt} {cs : CS} {X : Cx} {W : WX}, compS T d c s = some cs → CxOk T tab cl fa pss n X W → ScOk c X → PS X s (LS (gx X cl fa) W (execS (cxF tab n) cs))
  b : ∀ {c : Sc} {s : List Stmt} {cs : CSs} {X : Cx} {W : WX}, compB T d c s = some cs → CxOk T tab cl fa pss n X W → ScOk c X → PSs X s (LS (gx X cl fa) W (execB (cxF tab n) cs))
theorem s_bad {st : Stmt} : PS X st (LS (gx X cl fa) W (execS (cxF tab n) .bad)) := ps_mono ps_never fun D σ H ⟨α, S, ρ, hr, he, hw⟩ => hw.elim
theorem s_if {t : Expr} {a b : List Stmt} {pos : Pos} {ct : CE} {ca cb : CSs} (ht : PT X t (LTt (gx X cl fa) W (testE (cxF tab n) ct))) (ha : PSs X a (LS (gx X cl fa) W (execB (cxF tab n) ca))) (hb : PSs X b (LS (gx X cl fa) W (execB (cxF tab n) cb))) :
    PS X (.If t a b pos) (LS (gx X cl fa) W (execS (cxF tab n) (.ite ct ca cb))) := by
  refine ps_mono (ps_if ht ha hb) fun D σ H ⟨α, S, ρ, hr, he, hw⟩ => ?_
  unfold execS at hw
  refine ⟨α, S, ρ, hr, he, (hw.at he).imp1 fun α1 H1 k S1 e1 r1 q1 => ?_⟩
  cases k with
  | true => exact ⟨α1, S1, ρ, r1, he.ext e1, q1⟩
  | false => exact ⟨α1, S1, ρ, r1, he.ext e1, q1⟩
theorem s_while (C : CxOk T tab cl fa pss n X W) {t : Expr} {b : List Stmt} {pos : Pos} {ct : CE} {cb : CSs} (ht : PT X t (LTt (gx X cl fa) W (testE (cxF tab n) ct))) (hb : PSs X b (LS (gx X cl fa) W (execB (cxF tab n) cb))) :
    PS X (.While t b [] pos) (LS (gx X cl fa) W (execS (cxF tab n) (.whl ct cb))) := by
  refine ps_mono (ps_while C.po ht hb) fun D σ H hh => ?_
  refine ⟨fun m σ H => LS (gx X cl fa) W (fun ρ S => whLoop (testE (cxF tab n) ct) (execB (cxF tab n) cb) m ρ S) D σ H, ⟨tab.F, hh⟩, ?_⟩
  rintro m σ H ⟨α, S, ρ, hr, he, hw⟩
  cases m with
  | zero => exact hw.elim
  | succ F =>
    unfold whLoop at hw
    refine ⟨α, S, ρ, hr, he, (hw.at he).imp1 fun α1 H1 k S1 e1 r1 q1 => ?_⟩
    cases k with
    | false => exact WpS.nx q1 r1 (he.ext e1)
    | true =>
      refine ⟨LS (gx X cl fa) W (fun ρ S => whLoop (testE (cxF tab n) ct) (execB (cxF tab n) cb) F ρ S) D, fun σ' H' h => ⟨F, Nat.lt_succ_self F, h⟩, α1, S1, ρ, r1, he.ext e1, ?_⟩
      have q1 : WpS (gx X cl fa) W ((execB (cxF tab n) cb ρ S1).bind _) α1 H1 D := q1
      refine q1.bind fun fl S2 _ α2 H2 e2 r2 q2 => ?_
      cases fl with
      | nx ρ2 => exact fun σ' h' => ⟨α2, S2, ρ2, r2, h', q2⟩
      | ct ρ2 => exact fun σ' h' => ⟨α2, S2, ρ2, r2, h', q2⟩
      | bk ρ2 => exact fun σ' h' => WpS.nx q2 r2 h'
      | rt v => exact fun w h' => WpS.rt q2 r2 h'
theorem s_for (C : CxOk T tab cl fa pss n X W) {tg it : Expr} {b : List Stmt} {pos : Pos} {t : CT} {ci : CI} {cb : CSs} (hi : PI X tg it (LIt (gx X cl fa) W (iterE (cxF tab n) ci))) (hg : PG X tg (LG (gx X cl fa) t.slots (assignE (cxF tab n) t)))
    (hb : PSs X b (LS (gx X cl fa) W (execB (cxF tab n) cb))) (hs : isSet it = false) : PS X (.For tg it b [] pos) (LS (gx X cl fa) W (execS (cxF tab n) (.fr t ci cb))) := by
  refine ps_mono (ps_for C.po C.calm hi hg hb (hs := by
    intro x
    cases it <;> first
      | rfl
      | cases hs)) fun D σ H ⟨α, S, ρ, hr, he, hw⟩ => ?_
  unfold execS at hw
  refine ⟨α, S, ρ, hr, he, (hw.at he).imp1 fun α1 H1 Jv S1 e1 r1 q1 J jr => ?_⟩
  refine ⟨fun i m σ H' => ∃ α' S' ρ', Ext α1 H1 α' H' ∧ Rep (gx X cl fa) α' S' H' ∧ RE (gx X cl fa) α' H' ρ' σ ∧ WpS (gx X cl fa) W (frLoop (assignE (cxF tab n) t) (execB (cxF tab n) cb) Jv m i ρ' S') α' H' D,
    ⟨tab.F, α1, S1, ρ, Ext.refl _ _, r1, he.ext e1, q1⟩, ?_⟩
  rintro i m σ H' ⟨α', S', ρ', e, r, h', q⟩
  cases m with
  | zero => exact q.elim
  | succ F =>
    unfold frLoop at q
    split at q
    · exact q.elim
    · rename_i hx
      exact .inl ⟨(jr α' H' S' i e r).2 hx, WpS.nx q r h'⟩
    · rename_i x hx
      obtain ⟨go, yl⟩ := (jr α' H' S' i e r).1 x hx
      refine .inr ⟨go, fun σ H' => ∃ α' S' ρ', Ext α1 H1 α' H' ∧ Rep (gx X cl fa) α' S' H' ∧ RE (gx X cl fa) α' H' ρ' σ ∧ WpS (gx X cl fa) W (frLoop (assignE (cxF tab n) t) (execB (cxF tab n) cb) Jv F (i + 1) ρ' S') α' H' D,
        fun σ' H2 h => ⟨F, Nat.lt_succ_self F, h⟩, fun w H2 y => ?_⟩
      obtain ⟨ey, ry, vy⟩ := yl w H2 y
      refine ⟨α', S', ρ', x, ry, h'.ext ey, vy, ?_⟩
      have q2 := q.ext ey
      cases ha : assignE (cxF tab n) t x ρ' S' with
      | exc _ _ => rw [ha] at q2; exact q2.elim
      | stuck => rw [ha] at q2; exact q2.elim
      | ok ρ3 S3 =>
        rw [ha] at q2
        intro α3 H3 e3 r3 σ3 h3 _
        have q3 : WpS (gx X cl fa) W ((execB (cxF tab n) cb ρ3 S3).bind _) α3 H3 D := WpS.ext q2 e3
        refine ⟨α3, S3, ρ3, r3, h3, q3.bind fun fl S4 _ α4 H4 e4 r4 q4 => ?_⟩
        have ee := ((e.trans ey).trans e3).trans e4
        cases fl with
        | nx ρ4 => exact fun σ' h' => ⟨α4, S4, ρ4, ee, r4, h', q4⟩
        | ct ρ4 => exact fun σ' h' => ⟨α4, S4, ρ4, ee, r4, h', q4⟩
        | bk ρ4 => exact fun σ' h' => WpS.nx q4 r4 h'
        | rt v => exact fun w h' => WpS.rt q4 r4 h'
theorem s_ex {e : Expr} {pos : Pos} {ce : CE} (he : PE X e (LE (gx X cl fa) W (evalE (cxF tab n) ce))) (hl : isLc e = false) : PS X (.Expr e pos) (LS (gx X cl fa) W (execS (cxF tab n) (.ex ce))) := by
  refine ps_mono (ps_expr he (swaps_no hl)) fun D σ H ⟨α, S, ρ, hr, h1, hw⟩ => ?_
  unfold execS at hw
  exact ⟨α, S, ρ, hr, h1, (hw.at h1).imp1 fun α1 H1 v S1 e1 r1 q1 w1 v1 => WpS.nx q1 r1 (h1.ext e1)⟩
theorem s_ret {e : Expr} {pos : Pos} {ce : CE} (he : PE X e (LE (gx X cl fa) W (evalE (cxF tab n) ce))) : PS X (.Return (some e) pos) (LS (gx X cl fa) W (execS (cxF tab n) (.ret ce))) := by
  refine ps_mono (ps_ret he) fun D σ H ⟨α, S, ρ, hr, h1, hw⟩ => ?_
  unfold execS at hw
  exact ⟨α, S, ρ, hr, h1, (hw.at h1).imp1 fun α1 H1 v S1 e1 r1 q1 w1 v1 => WpS.rt q1 r1 v1⟩
theorem s_retn {pos : Pos} : PS X (.Return none pos) (LS (gx X cl fa) W (execS (cxF tab n) .retn)) :=
  ps_mono ps_retN fun D σ H ⟨α, S, ρ, hr, h1, hw⟩ => WpS.rt hw hr rfl
theorem s_pass {pos : Pos} : PS X (.Pass pos) (LS (gx X cl fa) W (execS (cxF tab n) .pass)) :=
  ps_mono ps_pass fun D σ H ⟨α, S, ρ, hr, h1, hw⟩ => WpS.nx hw hr h1
theorem s_doc {x : Str} {j : Nat} {p pos : Pos} : PS X (.Expr (.Constant (.str x) j p) pos) (LS (gx X cl fa) W (execS (cxF tab n) .pass)) :=
  ps_mono ps_doc fun D σ H ⟨α, S, ρ, hr, h1, hw⟩ => WpS.nx hw hr h1
theorem s_brk {pos : Pos} : PS X (.Break pos) (LS (gx X cl fa) W (execS (cxF tab n) .brk)) :=
  ps_mono ps_break fun D σ H ⟨α, S, ρ, hr, h1, hw⟩ => WpS.bk hw hr h1
theorem s_cnt {pos : Pos} : PS X (.Continue pos) (LS (gx X cl fa) W (execS (cxF tab n) .cnt)) :=
  ps_mono ps_continue fun D σ H ⟨α, S, ρ, hr, h1, hw⟩ => WpS.ct hw hr h1
theorem s_bnil : PSs X [] (LS (gx X cl fa) W (execB (cxF tab n) .nil)) := pss_mono pss_nil fun D σ H ⟨α, S, ρ, hr, h1, hw⟩ => WpS.nx hw hr h1
theorem s_bcons {s : Stmt} {ss : List Stmt} {cs : CS} {css : CSs} (h1 : PS X s (LS (gx X cl fa) W (execS (cxF tab n) cs))) (h2 : PSs X ss (LS (gx X cl fa) W (execB (cxF tab n) css))) :
    PSs X (s :: ss) (LS (gx X cl fa) W (execB (cxF tab n) (.cons cs css))) := by
  refine pss_mono (pss_cons h1 h2) fun D σ H ⟨α, S, ρ, hr, he, hw⟩ => ?_
  unfold execB at hw
  refine ⟨α, S, ρ, hr, he, hw.bind fun fl S2 _ α2 H2 e2 r2 q2 => ?_⟩
  cases fl with
  | nx ρ2 => exact fun σ' h' => ⟨α2, S2, ρ2, r2, h', q2⟩
  | ct ρ2 => exact fun σ' h' => WpS.ct q2 r2 h'
  | bk ρ2 => exact fun σ' h' => WpS.bk q2 r2 h'
  | rt v => exact fun w h' => WpS.rt q2 r2 h'
theorem bopC_as {o : Operator} (h : bopC o = some .add) : o = .Add := bopC_ok h
theorem snd_s {d : Nat} (ih : SndS T tab cl fa pss n d) {c : Sc} {s : Stmt} {cs : CS} {X : Cx} {W : WX} (h : compS T (d + 1) c s = some cs) (C : CxOk T tab cl fa pss n X W) (sc : ScOk c X) : PS X s (LS (gx X cl fa) W (execS (cxF tab n) cs)) := by
  have E := fun {e : Expr} {ce : CE} (h : compE T d c e = some ce) => (snd_all (T := T) (tab := tab) (cl := cl) (fa := fa) (pss := pss) (n := n) d).e (W := W) h C sc
  have bad : some CS.bad = some cs → PS X s (LS (gx X cl fa) W (execS (cxF tab n) cs)) := fun h => by
    cases h
    exact s_bad
  unfold compS at h
  split at h
  · rename_i y py e pos
    split at h
    · cases h
    · rename_i hb
      have hb : locB c y = true ∧ isLc e = swapB c y py e := by simpa using hb
      split at h
      · rename_i i x h1 h2
        cases h
        exact s_asgName C sc hb.1 h1 h2 hb.2
      · cases h
  · rename_i tg e pos _
    split at h
    · cases h
    · rename_i hb
      have hb : isLc e = false ∧ isTupE e = false := by simpa [Bool.or_eq_true, not_or] using hb
      split at h
      · rename_i t x h1 h2
        cases h
        exact s_asg C sc h1 h2 hb.1 hb.2
      · cases h
  · rename_i y py op e pos
    split at h
    · cases h
    · rename_i hb
      have hb : locB c y = true := by simpa using hb
      split at h
      · rename_i i x h1 h2 h3
        cases h
        rw [bopC_ok h2]
        exact s_aug C sc (.inl rfl) hb h1 h3
      · rename_i i x h1 h2 h3
        cases h
        rw [bopC_ok h2]
        exact s_aug C sc (.inr rfl) hb h1 h3
      · cases h
  · cases h
    exact s_doc
  · rename_i e pos _
    split at h
    · cases h
    · rename_i hl
      simp only [Option.map_eq_some_iff] at h
      obtain ⟨x, h1, rfl⟩ := h
      exact s_ex (E h1) (by simpa using hl)
  · simp only [Option.map_eq_some_iff] at h
    obtain ⟨x, h1, rfl⟩ := h
    exact s_ret (E h1)
  · cases h
    exact s_retn
  · cases h
    exact s_pass
  · cases h
    exact s_brk
  · cases h
    exact s_cnt
  · split at h
    · rename_i z x y h1 h2 h3
      cases h
      exact s_if ((snd_all d).t h1 C sc) (ih.b h2 C sc) (ih.b h3 C sc)
    · cases h
  · split at h
    · rename_i z x h1 h2
      cases h
      exact s_while C ((snd_all d).t h1 C sc) (ih.b h2 C sc)
    · cases h
  · split at h
    · cases h
    · rename_i hs
      split at h
      · rename_i t i x h1 h2 h3
        cases h
        exact s_for C ((snd_all d).i h2 C sc _) ((snd_all d).g (W := W) h1 C sc) (ih.b h3 C sc) (by simpa using hs)
      · cases h
  · exact bad h
theorem snd_b {d : Nat} (ih : SndS T tab cl fa pss n d) {c : Sc} {s : List Stmt} {cs : CSs} {X : Cx} {W : WX} (h : compB T (d + 1) c s = some cs) (C : CxOk T tab cl fa pss n X W) (sc : ScOk c X) : PSs X s (LS (gx X cl fa) W (execB (cxF tab n) cs)) := by
  cases s with
  | nil =>
    cases h
    exact s_bnil
  | cons s ss =>
    have h : (match compS T d c s, compB T d c ss with
      | some x, some xs => some (CSs.cons x xs)
      | _, _ => none) = some cs := h
    split at h
    · rename_i x xs h1 h2
      cases h
      exact s_bcons (ih.s h1 C sc) (ih.b h2 C sc)
    · cases h
theorem sndS_all : ∀ d, SndS T tab cl fa pss n d
  | 0 => ⟨fun h => noneof h, fun h => noneof h⟩
  | d + 1 => ⟨snd_s (sndS_all d), snd_b (sndS_all d)⟩
end
end L3
set_option maxRecDepth 100000
/-! L3Fun: defs, levels, the law. -/
namespace L3
open PySem PySem.Spec PyProof.Rows L2
theorem WpS.ret {g : G} {E : XK} {r : RS} {α : List Addr} {H : Hp} {Q : VK} (h : Wp g r.ret α H (PV1 g Q) (fun α' H' x _ => ∀ c d, RX g x c d α' H' → E c d H')) : WpS g (fun c d _ H => E c d H) r α H { nx := fun _ H' => Q .non H', rt := Q } := by
  cases r with
  | ok fl S =>
    cases fl with
    | nx ρ => exact fun α' H' e q σ' _ => h.okE e q .non rfl
    | rt v => exact fun α' H' e q w hw => h.okE e q w hw
    | bk ρ => exact h.elim
    | ct ρ => exact h.elim
  | exc x ρ S => exact fun α' H' e q σ' _ c d hx => h α' H' e q c d hx
  | stuck => exact h
theorem RE.start {g : G} {α : List Addr} {H : Hp} {fn : Fn} {N : List Str} {args : List PV} {vs : List V} (h : RVs g.K α H args vs) (hn : fn.ns = N.length) (hl : vs.length ≤ N.length) : RE g α H (startEnv fn args) (L2.start N vs) := by
  have e := h.length
  refine ⟨by simp [startEnv, L2.start, hn, e], fun i v hi => ?_⟩
  unfold startEnv at hi
  by_cases hlt : i < args.length
  · rw [List.getElem?_append_left (by simpa using hlt), List.getElem?_map] at hi
    cases ha : args[i]? with
    | none => rw [ha] at hi; cases hi
    | some x =>
      rw [ha] at hi
      cases hi
      obtain ⟨w, h1, h2⟩ := h.at ha
      refine ⟨w, ?_, h2⟩
      unfold L2.start
      rw [List.getElem?_append_left (by simpa [← e] using hlt), List.getElem?_map, h1]
      rfl
  · rw [List.getElem?_append_right (by simpa using hlt), List.getElem?_replicate] at hi
    split at hi <;> cases hi
section
variable {P : Program} {w : World} {K : PySem.W.Frag} {mg : Str → Option Value} {base : Heap} {T : GT} {tab : Tab} {cl fa : Nat → Addr} {pss : Nat → List Str}
/-- the callees of a level -/
def FnsAt (P : Program) (w : World) (K : PySem.W.Frag) (mg : Str → Option Value) (base : Heap) (tab : Tab) (cl fa : Nat → Addr) (pss : Nat → List Str) (n : Nat) : Prop :=
  ∀ f fn, tab.fns[f]? = some fn → (pss f).length = fn.np ∧ PySem.W.keepIn K (.ref (fa f)) = true ∧ ∃ fd, FnOk P w K mg base (L2.CX P w) n (fa f) fd (pss f) (spOf ⟨K, cl, fa⟩ tab n f fn.np) ∧ Binds K fd (pss f) []
theorem fn_body {n f d : Nat} {fn : Fn} {name qual : Str} {params : Arguments} {body : List Stmt} {scope : Scope} {N ps : List Str} {fd : FuncData} (F : FunD K name qual params body scope [] [] (fa f) fd) (S : FnScope N ps scope)
    (hc : compB T d ⟨scope, N, fun _ => true⟩ body = some fn.body) (hf : tab.fns[f]? = some fn) (hnp : fn.np = ps.length) (hns : fn.ns = N.length) (nm : NmOk K mg T tab cl fa) (ih : FnsAt P w K mg base tab cl fa pss n) :
    FnOk P w K mg base (L2.CX P w) (n + 1) (fa f) fd ps (spOf ⟨K, cl, fa⟩ tab (n + 1) f fn.np) := by
  refine F.ok S (fun vs H Q E h => h.1.trans hnp) (fun cdv A outer s H vs Q E hr hsp => ?_)
  obtain ⟨hl, α, S0, args, r, rv, q⟩ := hsp
  have C : CxOk T tab cl fa pss n (cxOf (L2.CX P w) P w K mg base N qual scope (fa f) cdv A outer s H E) (fun c d _ H => E c d H) :=
    ⟨rfl, S.nd, hr, nm, ih, takes_of rfl rfl rfl rfl, passes_of rfl⟩
  have sc : ScOk ⟨scope, N, fun _ => true⟩ (cxOf (L2.CX P w) P w K mg base N qual scope (fa f) cdv A outer s H E) := ⟨rfl, rfl, rfl⟩
  refine ⟨_, (sndS_all d).b hc C sc, α, S0, startEnv fn args, r, RE.start rv hns ?_, ?_⟩
  · have := congrArg List.length S.pre
    rw [List.length_take] at this
    omega
  · rw [callF_succ, hf] at q
    simp only at q
    rw [if_pos (rv.length.trans hl)] at q
    exact WpS.ret q
/-- what is known of a def of the table -/
def FnI (K : PySem.W.Frag) (T : GT) (tab : Tab) (fa : Nat → Addr) (pss : Nat → List Str) (f : Nat) (fn : Fn) : Prop :=
  ∃ (name qual : Str) (params : Arguments) (body : List Stmt) (scope : Scope) (N : List Str) (fd : FuncData) (d : Nat), FunD K name qual params body scope [] [] (fa f) fd ∧ FnScope N (pss f) scope ∧
    compB T d ⟨scope, N, fun _ => true⟩ body = some fn.body ∧ fn.np = (pss f).length ∧ fn.ns = N.length ∧ Binds K fd (pss f) []
theorem fns_all (nm : NmOk K mg T tab cl fa) (hI : ∀ f fn, tab.fns[f]? = some fn → FnI K T tab fa pss f fn) : ∀ n, FnsAt P w K mg base tab cl fa pss n
  | 0 => fun f fn hf => by
    obtain ⟨name, qual, params, body, scope, N, fd, d, F, S, hc, hnp, hns, B⟩ := hI f fn hf
    refine ⟨hnp.symm, F.kp, fd, ⟨fun vs H Q E h => h.1.trans hnp, fun A outer s H args us vs Q E hr e0 hb hv h => ?_⟩, B⟩
    obtain ⟨_, α, S0, xs, _, _, q⟩ := h
    exact q.elim
  | n + 1 => fun f fn hf => by
    obtain ⟨name, qual, params, body, scope, N, fd, d, F, S, hc, hnp, hns, B⟩ := hI f fn hf
    exact ⟨hnp.symm, F.kp, fd, fn_body F S hc hf hnp hns nm (fns_all nm hI n), B⟩
end

/-! ### constants of the module -/
mutual
def uB (K : PySem.W.Frag) : PV → Value → Bool
  | .non, .none => true
  | .bl b, .bool c => b == c
  | .int i, .int j _ => decide (i = j)
  | .str x, .str y _ => decide (toStr x = y)
  | .tup xs, .ref a => (match K.lookup a with
    | some ⟨.type c, _, .seq its _, _⟩ => decide (c = "tuple") && (decide (its.size ≤ sizeLine) && uBs K xs its.toList)
    | _ => false)
  | .rol xs, .ref a => (match K.lookup a with
    | some ⟨.type c, none, .seq its _, _⟩ => decide (c = "list") && (decide (its.size ≤ sizeLine) && uBs K xs its.toList)
    | _ => false)
  | _, _ => false
def uBs (K : PySem.W.Frag) : List PV → List Value → Bool
  | [], [] => true
  | x :: xs, u :: us => uB K x u && uBs K xs us
  | _, _ => false
end
mutual
theorem uB_ok {K : PySem.W.Frag} : ∀ {v : PV} {u : Value}, uB K v u = true → ∃ w, RelV w u ∧ ∀ α H, RV K α H v w
  | .non, u, h => by
    cases u <;> first
      | (simp [uB] at h; done)
      | exact ⟨.non, rfl, fun _ _ => rfl⟩
  | .bl b, u, h => by
    cases u <;> first
      | (simp [uB] at h; done)
      | (simp [uB] at h
         subst h
         exact ⟨.bl _, rfl, fun _ _ => rfl⟩)
  | .int i, u, h => by
    cases u <;> first
      | (simp [uB] at h; done)
      | (simp [uB] at h
         subst h
         exact ⟨.int _, ⟨_, rfl⟩, fun _ _ => rfl⟩)
  | .str x, u, h => by
    cases u <;> first
      | (simp [uB] at h; done)
      | (simp only [uB, decide_eq_true_eq] at h
         subst h
         exact ⟨.str _, ⟨_, rfl⟩, fun _ _ => rfl⟩)
  | .tup xs, u, h => by
    cases u <;> first
      | (simp [uB] at h; done)
      | skip
    rename_i a
    simp only [uB] at h
    split at h
    · rename_i c dd its n sl hk
      simp only [Bool.and_eq_true, decide_eq_true_eq] at h
      obtain ⟨h1, h2, h3⟩ := h
      subst h1
      obtain ⟨ws, r1, r2⟩ := uBs_ok h3
      exact ⟨.ref a, rfl, fun α H => ⟨a, ws, rfl, .inr ⟨_, its, n, hk, rfl, rfl, h2, r1⟩, r2 α H⟩⟩
    · cases h
  | .rol xs, u, h => by
    cases u <;> first
      | (simp [uB] at h; done)
      | skip
    rename_i a
    simp only [uB] at h
    split at h
    · rename_i c its n sl hk
      simp only [Bool.and_eq_true, decide_eq_true_eq] at h
      obtain ⟨h1, h2, h3⟩ := h
      subst h1
      obtain ⟨ws, r1, r2⟩ := uBs_ok h3
      exact ⟨.ref a, rfl, fun α H => ⟨a, ws, rfl, .inr ⟨_, its, n, hk, rfl, rfl, rfl, h2, r1⟩, r2 α H⟩⟩
    · cases h
  | .ref p, u, h => by cases u <;> simp [uB] at h
theorem uBs_ok {K : PySem.W.Frag} : ∀ {vs : List PV} {us : List Value}, uBs K vs us = true → ∃ ws, Vals ws us ∧ ∀ α H, RVs K α H vs ws
  | [], [], _ => ⟨[], .nil, fun _ _ => rfl⟩
  | [], _ :: _, h => by simp [uBs] at h
  | _ :: _, [], h => by simp [uBs] at h
  | v :: vs, u :: us, h => by
    simp only [uBs, Bool.and_eq_true] at h
    obtain ⟨w, r1, r2⟩ := uB_ok h.1
    obtain ⟨ws, q1, q2⟩ := uBs_ok h.2
    exact ⟨w :: ws, .cons r1 q1, fun α H => ⟨w, ws, rfl, r2 α H, q2 α H⟩⟩
end
/-- the module's name x stands for v -/
def gB (K : PySem.W.Frag) (x : Str) (v : PV) : Bool := match PySem.W.nsIn K mainGlobals x with
  | some (some u) => uB K v u
  | _ => false
theorem gB_ok {K : PySem.W.Frag} {h : Heap} {mg : Str → Option Value} (X : K.In h) (Gn : h.Ns mainGlobals mg) {x : Str} {v : PV} (c : gB K x v = true) : ∃ u w, mg x = some u ∧ RelV w u ∧ ∀ α H, RV K α H v w := by
  unfold gB at c
  cases e : PySem.W.nsIn K mainGlobals x with
  | none => rw [e] at c; cases c
  | some o =>
    rw [e] at c
    cases o with
    | none => cases c
    | some u =>
      obtain ⟨w, r1, r2⟩ := uB_ok c
      exact ⟨u, w, PySem.W.mg_of X Gn e, r1, r2⟩

/-! ### a law's data -/
/-- a def of the text: where it stands, its text, its slots, what it is in the interpreter -/
structure FnS where
  d : He.DefD
  N : List Str
  ps : List Str
  fn : Fn
def scB (s : FnS) : Bool := (match s.d.scope.kind with | .function => true | _ => false) && (!s.d.scope.isCoroutine && (!s.d.scope.isGenerator && (decide s.N.Nodup && (decide (s.N.take s.ps.length = s.ps) &&
  ((s.ps.all fun x => match s.d.scope.names.lookup x with | some .local => true | some .cell => true | _ => false) && (s.d.scope.names.all fun y => match y.2 with | .free => false | _ => true))))))
theorem scB_ok {s : FnS} (h : scB s = true) : FnScope s.N s.ps s.d.scope := by
  unfold scB at h
  simp only [Bool.and_eq_true, decide_eq_true_eq, Bool.not_eq_true', List.all_eq_true] at h
  obtain ⟨h1, h2, h3, h4, h5, h6, h7⟩ := h
  refine ⟨?_, h2, h3, h4, h5, fun x hx => ?_, fun y hy => ?_⟩
  · split at h1
    · assumption
    · cases h1
  · have := h6 x hx
    split at this
    · rename_i e; exact .inl e
    · rename_i e; exact .inr e
    · cases this
  · have := h7 y hy
    intro e
    rw [e] at this
    cases this
structure LawD where
  T : GT
  tab : Tab
  fs : List FnS
  /-- the constants, by name, in the order of tab.glob -/
  gl : List (Str × PV)
def bnames : List Str := ["len", "abs", "int", "list", "tuple", "all", "any", "min", "max", "str", "bool", "isinstance", "range"]
def LawD.fa (L : LawD) : List He.Fa := (L.fs.filterMap fun s => match s.d.at_.2 with | none => some (He.Fa.glo s.d.at_.1) | some _ => none) ++ bnames.map He.Fa.free
def LawD.ex (L : LawD) (K : PySem.W.Frag) : Bool := L.gl.all fun q => gB K q.1 q.2
/-- the function table's addresses -/
def LawD.fad (L : LawD) (K : PySem.W.Frag) (i : Nat) : Addr := match L.fs[i]? with
  | some s => He.fAd K s.d.at_
  | none => 0
def LawD.pss (L : LawD) (i : Nat) : List Str := match L.fs[i]? with
  | some s => s.ps
  | none => []
def fnC (T : GT) (d : Nat) (s : FnS) : Bool := scB s && (decide (s.fn.np = s.ps.length) && decide (s.fn.ns = s.N.length))
/-- what is checked of the data -/
structure LawD.Ok (L : LawD) (d : Nat) : Prop where
  fns : L.tab.fns = L.fs.map (·.fn)
  glob : L.tab.glob = L.gl.map (·.2)
  T_glob : L.T.glob = (L.gl.map (·.1)).zipIdx
  T_fns : ∀ x f, L.T.fns.lookup x = some f → ∃ s, L.fs[f]? = some s ∧ s.d.at_ = (x, none)
  sc : ∀ s ∈ L.fs, scB s = true ∧ s.fn.np = s.ps.length ∧ s.fn.ns = s.N.length ∧ s.d.dfl = [] ∧ s.d.kwd = []
  comp : ∀ s ∈ L.fs, compB L.T d ⟨s.d.scope, s.N, fun _ => true⟩ s.d.body = some s.fn.body
  binds : ∀ s ∈ L.fs, ∀ (kV doc pm : Value) (an : Option Addr) (cdv ct : Value) (us : List Value), us.length = s.ps.length → bindArgs (PySem.W.fnOf s.d.name s.d.qual s.d.params s.d.body s.d.scope .none kV doc pm an cdv ct) ⟨us, []⟩ = pure (s.ps.zip us)
theorem zipIdx_lookup {α : Type} [BEq α] [LawfulBEq α] : ∀ {l : List α} {x : α} {k j : Nat}, (l.zipIdx j).lookup x = some k → ∃ i, k = j + i ∧ l[i]? = some x
  | [], _, _, _, h => by cases h
  | y :: r, x, k, j, h => by
    rw [List.zipIdx_cons, List.lookup_cons] at h
    split at h
    · rename_i e
      cases h
      exact ⟨0, rfl, by simp [eq_of_beq e]⟩
    · obtain ⟨i, h1, h2⟩ := zipIdx_lookup h
      exact ⟨i + 1, by omega, by simpa using h2⟩
section
variable {L : LawD} {d : Nat} {K : PySem.W.Frag} {h : Heap} {mg : Str → Option Value}
theorem fact_mem {fa : List He.Fa} {fn : List He.DefD} (c : He.SaysD fa fn K) {f : He.Fa} (hf : f ∈ fa) : f.ok K = true := c.facts hf
theorem law_nm (O : L.Ok d) (X : K.In h) (Gn : h.Ns mainGlobals mg) (c : He.SaysD L.fa (L.fs.map (·.d)) K) (e : L.ex K = true) (cl : Nat → Addr) : NmOk K mg L.T L.tab cl (L.fad K) := by
  have free : ∀ x ∈ bnames, mg x = none := fun x hx => He.free_ok X Gn (fact_mem c (List.mem_append_right _ (List.mem_map.mpr ⟨x, hx, rfl⟩)))
  refine ⟨fun x k hk => ?_, fun x f hf => ?_, fun b => free _ ?_, fun t => free _ ?_, free _ (by simp [bnames]), free _ (by simp [bnames])⟩
  · rw [O.T_glob] at hk
    obtain ⟨i, h1, h2⟩ := zipIdx_lookup hk
    have h1 : k = i := by omega
    subst h1
    rw [List.getElem?_map, Option.map_eq_some_iff] at h2
    obtain ⟨q, h3, rfl⟩ := h2
    obtain ⟨u, w, a1, a2, a3⟩ := gB_ok X Gn (List.all_eq_true.mp e q (List.mem_of_getElem? h3))
    exact ⟨q.2, u, w, by rw [O.glob, List.getElem?_map, h3]; rfl, a1, a2, a3⟩
  · obtain ⟨s, h1, h2⟩ := O.T_fns x f hf
    refine ⟨?_, ?_⟩
    · have hm : He.Fa.glo x ∈ L.fa := List.mem_append_left _ (List.mem_filterMap.mpr ⟨s, List.mem_of_getElem? h1, by rw [h2]⟩)
      have := He.glo_ok X Gn (fact_mem c hm)
      rw [this]
      unfold LawD.fad
      rw [h1]
      show some (Value.ref (He.ga K x)) = some (.ref (He.fAd K s.d.at_))
      rw [h2]
      rfl
    · rw [O.fns, List.length_map]
      exact (List.getElem?_eq_some_iff.mp h1).1
  · cases b <;> simp [bfN, bnames]
  · cases t <;> simp [tyN, bnames]
theorem law_fni (O : L.Ok d) (c : He.SaysD L.fa (L.fs.map (·.d)) K) (f : Nat) (fn : Fn) (hf : L.tab.fns[f]? = some fn) : FnI K L.T L.tab (L.fad K) L.pss f fn := by
  rw [O.fns, List.getElem?_map, Option.map_eq_some_iff] at hf
  obtain ⟨s, hs, rfl⟩ := hf
  have hm := List.mem_of_getElem? hs
  obtain ⟨q1, q2, q3, q4, q5⟩ := O.sc s hm
  obtain ⟨fd, F⟩ := c.def_ f (d := s.d) (by rw [List.getElem?_map, hs]; rfl)
  have e1 : L.fad K f = He.fAd K s.d.at_ := by unfold LawD.fad; rw [hs]
  have e2 : L.pss f = s.ps := by unfold LawD.pss; rw [hs]
  have F : FunD K s.d.name s.d.qual s.d.params s.d.body s.d.scope [] [] (He.fAd K s.d.at_) fd := by
    have h1 : s.d.dvs K = [] := by unfold He.DefD.dvs; rw [q4]; rfl
    have h2 : s.d.kws K = [] := by unfold He.DefD.kws; rw [q5]; rfl
    rw [h1, h2] at F
    exact F
  refine ⟨s.d.name, s.d.qual, s.d.params, s.d.body, s.d.scope, s.N, fd, d, ?_, ?_, O.comp s hm, ?_, q3, ?_⟩
  · rw [e1]; exact F
  · rw [e2]; exact scB_ok q1
  · rw [e2]; exact q2
  · rw [e2]
    exact F.bindsN (O.binds s hm)
/-- the law's own promise: True comes out -/
def spLaw (K : PySem.W.Frag) : Sp := fun vs H Q _ => ∃ (a : Addr) (ns : List Int), vs = [.ref a] ∧ SqC K H a (ns.map V.int) ∧ ns.length ≤ 63 ∧ ∀ H', Q (.bl true) H'
theorem rvs_ints {α : List Addr} {H : Hp} : ∀ ns : List Int, RVs K α H (ns.map PV.int) (ns.map V.int)
  | [] => rfl
  | i :: ns => ⟨.int i, ns.map V.int, rfl, rfl, rvs_ints ns⟩
theorem law_sp {tab : Tab} {cl fa : Nat → Addr} {n f : Nat} (hl : ∀ ns : List Int, ns.length ≤ 63 → ∃ S, callF tab n f [.rol (ns.map .int)] [] = .ok (.bl true) S) (vs : List V) (H : Hp) (Q : VK) (E : XK) (h : spLaw K vs H Q E) : spOf ⟨K, cl, fa⟩ tab n f 1 vs H Q E := by
  obtain ⟨a, ns, rfl, s1, h1, q⟩ := h
  refine ⟨rfl, [], [], [.rol (ns.map .int)], ⟨rfl, List.nodup_nil, fun n o h => by simp at h⟩, ⟨.ref a, [], rfl, ⟨a, _, rfl, s1, rvs_ints ns⟩, rfl⟩, ?_⟩
  obtain ⟨S, hS⟩ := hl ns h1
  rw [hS]
  intro α' H' e r w hw
  cases hw
  exact q H'
end
end L3
set_option maxRecDepth 100000
/-! L3End: the law's walk. -/
namespace L3
open PySem PySem.Spec PyProof.Rows L2
theorem walk_ofEw {l : PySem.W.OpenLaw} {n k : Nat} {q : Program} {loose : List Str} {XP : (Str → Option Value) → Heap → Prop} {YP : World → Heap → Prop} {d : DefRec} {CX : World → CXT} {x : Str}
    (hn : l.most = some n) (hn2 : n ≤ sizeLine) (hdf : d.params.defaults = []) (hr : Room k callerA)
    (F : ∀ (w : World) (mg : Str → Option Value) (fa : Addr) (h : Heap), YP w h → h.Ns mainGlobals mg → mg d.name = some (.ref fa) →
      ∃ (K : PySem.W.Frag) (fd : FuncData) (sp : Sp), K.In h ∧ (∀ (s : Shared) (u : Value), BindsTo s fd ⟨[u], []⟩ [(x, u)]) ∧
        (∀ (H : Hp) (a : Addr) (ns : List Int), ns.length ≤ n → Only H → SqL K H a (ns.map V.int) → sp [.ref a] H (fun v _ => v = .bl true) fun _ _ _ => False) ∧
        ∀ base : Heap, K.In base → base.Ns mainGlobals mg → FnOk l.prog w K mg base (CX w) k fa fd [x] sp)
    (hCX : ∀ (w : World) (H : Hp) (s : Shared) (e : Value) (s' : Shared), CX w [] H s (fun _ _ _ => False) e s' → False) :
    PySem.W.WalkO q loose XP YP l.row.toRowW d [] (fun f vs => PySem.call f vs) := by
  refine Att.attach_call hn hdf fun w s₀ s₁ mg mb fa o pm cd doc a vs ns G Y ho hd hcd hmg hobj hints hlen hg => ?_
  obtain ⟨K, fd, sp, KX, hb, hsp, hF⟩ := F w mg fa _ Y G.T.g hmg
  exact law_call KX G.T.g G.T.b G.T.builtins G.T.nolimit hg hobj hints (Nat.le_trans hlen hn2) hr hF hb (fun H hO hS => hsp H a ns hlen hO hS) fun H e s' => hCX w H s₁ e s'
theorem sqC_of {K : PySem.W.Frag} {H : Hp} {a : Addr} {xs : List V} (o : Only H) (h : SqL K H a xs) : SqC K H a xs := by
  rcases h with (h | ⟨ob, h⟩) | h
  · rcases o a with z | ⟨ob, ys, z⟩
    · rw [z] at h; cases h
    · rw [z] at h; cases h
  · exact .inl ⟨ob, h⟩
  · exact .inr h
theorem law_walk {l : PySem.W.OpenLaw} {q : Program} {loose : List Str} {XP : (Str → Option Value) → Heap → Prop} {dr : DefRec} {L : LawD} {dep N li hn : Nat} {s : FnS} {x : Str} (O : L.Ok dep) (hli : L.fs[li]? = some s) (hat : s.d.at_ = (("law" : Str), (none : Option Str))) (hps : s.ps = [x])
    (hm : l.most = some 63) (hdf : dr.params.defaults = []) (hname : dr.name = ("law" : Str)) (hr : Room N callerA)
    (hl : ∀ ns : List Int, ns.length ≤ 63 → ∃ S, callF L.tab N li [.rol (ns.map .int)] [] = .ok (.bl true) S) :
    PySem.W.WalkO q loose XP (He.hookX hn L.fa (L.fs.map (·.d)) [] [] L.ex).says l.row.toRowW dr [] (fun f vs => PySem.call f vs) := by
  refine walk_ofEw (n := 63) (k := N) (x := x) (CX := fun w => L2.CX l.prog w) hm (by decide) hdf hr (fun w mg fa h Y Gn hmg => ?_) fun w H s0 e s' z => ?_
  · obtain ⟨K, KX, c⟩ := Y
    have cd := c.t.d
    have nm := law_nm O KX Gn cd c.more (fun _ => 0)
    have hI := law_fni O cd
    have hf : L.tab.fns[li]? = some s.fn := by rw [O.fns, List.getElem?_map, hli]; rfl
    have hm := List.mem_of_getElem? hli
    obtain ⟨q1, q2, q3, q4, q5⟩ := O.sc s hm
    have e1 : L.fad K li = He.ga K "law" := by
      unfold LawD.fad
      rw [hli]
      show He.fAd K s.d.at_ = _
      rw [hat]
      rfl
    have e2 : L.pss li = [x] := by unfold LawD.pss; rw [hli]; exact hps
    have hg : mg "law" = some (.ref (He.ga K "law")) := He.glo_ok KX Gn (fact_mem cd (List.mem_append_left _ (List.mem_filterMap.mpr ⟨s, hm, by rw [hat]⟩)))
    have efa : fa = He.ga K "law" := by
      rw [hname] at hmg
      exact Value.ref.inj (Option.some.inj (hmg.symm.trans hg))
    subst efa
    obtain ⟨fd, F⟩ := cd.def_ li (d := s.d) (by rw [List.getElem?_map, hli]; rfl)
    have F : FunD K s.d.name s.d.qual s.d.params s.d.body s.d.scope [] [] (He.ga K "law") fd := by
      have h1 : s.d.dvs K = [] := by unfold He.DefD.dvs; rw [q4]; rfl
      have h2 : s.d.kws K = [] := by unfold He.DefD.kws; rw [q5]; rfl
      rw [h1, h2] at F
      have h3 : He.fAd K s.d.at_ = He.ga K "law" := by rw [hat]; rfl
      rw [h3] at F
      exact F
    have b := FunD.bindsA (ps := s.ps) F (O.binds s hm)
    refine ⟨K, fd, spLaw K, KX, fun s1 u => ?_, fun H a ns hlen hO hS => ⟨a, ns, rfl, sqC_of hO hS, hlen, fun _ => rfl⟩, fun base KB GB => ?_⟩
    · have := b s1 [u] (by rw [hps]; rfl)
      rw [hps] at this
      exact this
    · cases N with
      | zero =>
        obtain ⟨S, hS⟩ := hl [] (by decide)
        cases hS
      | succ N =>
        have body := fn_body (P := l.prog) (w := w) (mg := mg) (base := base) (cl := fun _ => 0) (n := N) (f := li) (fn := s.fn) (by rw [e1]; exact F) (scB_ok q1) (O.comp s hm) hf q2 q3 nm (fns_all nm hI N)
        rw [e1] at body
        rw [hps] at body
        refine body.imp fun vs H Q E h => ?_
        have e3 : s.fn.np = 1 := by rw [q2, hps]; rfl
        rw [e3]
        exact law_sp hl vs H Q E h
  · obtain ⟨_, _, _, _, _, _, _, _, _, _, _, _, z⟩ := z
    exact z
theorem alln {α : Type} {P : α → Prop} : ∀ s ∈ ([] : List α), P s := fun s hs => by cases hs
theorem allc {α : Type} {P : α → Prop} {a : α} {l : List α} (h : P a) (t : ∀ s ∈ l, P s) : ∀ s ∈ a :: l, P s := fun s hs => by
  rcases List.mem_cons.mp hs with e | hs
  · rw [e]; exact h
  · exact t s hs
def fnsB (L : LawD) : Bool := L.T.fns.all fun q => match L.fs[q.2]? with
  | some s => decide (s.d.at_ = (q.1, none))
  | none => false
theorem fns_ok {L : LawD} (h : fnsB L = true) : ∀ x f, L.T.fns.lookup x = some f → ∃ s, L.fs[f]? = some s ∧ s.d.at_ = (x, none) := fun x f hf => by
  have hm := PySem.mem_of_lookup hf
  have := List.all_eq_true.mp h (x, f) hm
  simp only at this
  split at this
  · rename_i s hs
    exact ⟨s, hs, of_decide_eq_true this⟩
  · cases this
def scAll (L : LawD) : Bool := L.fs.all fun s => scB s && (decide (s.fn.np = s.ps.length) && (decide (s.fn.ns = s.N.length) && (s.d.dfl.isEmpty && s.d.kwd.isEmpty)))
theorem sc_ok {L : LawD} (h : scAll L = true) : ∀ s ∈ L.fs, scB s = true ∧ s.fn.np = s.ps.length ∧ s.fn.ns = s.N.length ∧ s.d.dfl = [] ∧ s.d.kwd = [] := fun s hs => by
  have := List.all_eq_true.mp h s hs
  simp only [Bool.and_eq_true, decide_eq_true_eq, List.isEmpty_iff] at this
  exact ⟨this.1, this.2.1, this.2.2.1, this.2.2.2.1, this.2.2.2.2⟩
end L3
/-! L3Wp: what a run of the interpreter comes to; loops by invariants. -/
namespace L3
variable {α β : Type}
def Wq (r : R α) (P : α → Store → Prop) (E : Exn → Store → Prop) : Prop := match r with
  | .ok a S => P a S
  | .exc x S => E x S
  | .stuck => False
def Ws (r : RS) (K : Fl → Store → Prop) (E : Exn → Env → Store → Prop) : Prop := match r with
  | .ok fl S => K fl S
  | .exc x ρ S => E x ρ S
  | .stuck => False
abbrev NoX : Exn → Store → Prop := fun _ _ => False
abbrev NoXS : Exn → Env → Store → Prop := fun _ _ _ => False
section
variable {r : R α} {P P' : α → Store → Prop} {E E' : Exn → Store → Prop}
theorem Wq_ok {a : α} {S : Store} : Wq (.ok a S) P E = P a S := rfl
theorem Wq_stuck : Wq (.stuck : R α) P E = False := rfl
theorem Wq_exc {x : Exn} {S : Store} : Wq (.exc x S : R α) P E = E x S := rfl
theorem Wq_bind {f : α → Store → R β} {Q : β → Store → Prop} : Wq (r.bind f) Q E = Wq r (fun a S => Wq (f a S) Q E) E := by cases r <;> rfl
theorem Wq_nox : Wq r.nox P E = Wq r P NoX := by cases r <;> rfl
theorem Wq_ofO {o : Option α} {S : Store} : Wq (ofO o S) P E = ∃ a, o = some a ∧ P a S := by
  cases o <;> simp [ofO, Wq]
theorem Wq_ite {c : Prop} [Decidable c] {q : R α} : Wq (if c then r else q) P E = if c then Wq r P E else Wq q P E := by split <;> rfl
theorem Wq.mono (h : Wq r P E) (hp : ∀ a S, P a S → P' a S) (he : ∀ x S, E x S → E' x S) : Wq r P' E' := by
  cases r with
  | ok a S => exact hp _ _ h
  | exc x S => exact he _ _ h
  | stuck => exact h
theorem Wq.imp (h : Wq r P NoX) (hp : ∀ a S, P a S → P' a S) : Wq r P' E := h.mono hp fun _ _ z => z.elim
theorem Wq.get (h : Wq r P NoX) : ∃ a S, r = .ok a S ∧ P a S := by
  cases r with
  | ok a S => exact ⟨a, S, rfl, h⟩
  | exc x S => exact h.elim
  | stuck => exact h.elim
theorem Wq.of {a : α} {S : Store} (h : r = .ok a S) (p : P a S) : Wq r P E := by rw [h]; exact p
end
section
variable {r : RS} {K K' : Fl → Store → Prop} {E : Exn → Env → Store → Prop}
theorem Ws_ok {a : Fl} {S : Store} : Ws (.ok a S) K E = K a S := rfl
theorem Ws_stuck : Ws .stuck K E = False := rfl
theorem Ws_at {q : R α} {ρ : Env} {f : α → Store → RS} : Ws (q.at ρ f) K E = Wq q (fun a S => Ws (f a S) K E) (fun x S => E x ρ S) := by cases q <;> rfl
theorem Ws_bind {f : Fl → Store → RS} : Ws (r.bind f) K E = Ws r (fun fl S => Ws (f fl S) K E) E := by cases r <;> rfl
theorem Ws_ite {c : Prop} [Decidable c] {q : RS} : Ws (if c then r else q) K E = if c then Ws r K E else Ws q K E := by split <;> rfl
theorem Ws.mono (h : Ws r K E) (hp : ∀ a S, K a S → K' a S) : Ws r K' E := by
  cases r with
  | ok a S => exact hp _ _ h
  | exc x S => exact h
  | stuck => exact h
/-- what a body hands back -/
def retK (P : PV → Store → Prop) : Fl → Store → Prop
  | .nx _, S => P .non S
  | .rt v, S => P v S
  | _, _ => False
theorem Wq_ret {P : PV → Store → Prop} {E : Exn → Store → Prop} : Wq r.ret P E = Ws r (retK P) (fun x _ S => E x S) := by
  cases r with
  | ok fl S => cases fl <;> rfl
  | exc x S => rfl
  | stuck => rfl
end
/-- a call of a def of the table -/
theorem Wq_call {T : Tab} {n f : Nat} {fn : Fn} {args : List PV} {S : Store} {P : PV → Store → Prop} {E : Exn → Store → Prop} (hf : T.fns[f]? = some fn) (hl : args.length = fn.np)
    (h : Ws (execB (cxF T n) fn.body (startEnv fn args) S) (retK P) (fun x _ S => E x S)) : Wq (callF T (n + 1) f args S) P E := by
  rw [callF_succ, hf]
  simp only
  rw [if_pos hl, Wq_ret]
  exact h
/-- what follows a statement -/
def nxt (cx : Cxi) (ss : CSs) (K : Fl → Store → Prop) (E : Exn → Env → Store → Prop) : Fl → Store → Prop
  | .nx ρ, S => Ws (execB cx ss ρ S) K E
  | fl, S => K fl S
section
variable {cx : Cxi} {ρ : Env} {S : Store} {K : Fl → Store → Prop} {E : Exn → Env → Store → Prop}
theorem W_nil : Ws (execB cx .nil ρ S) K E = K (.nx ρ) S := rfl
theorem W_cons {s : CS} {ss : CSs} : Ws (execB cx (.cons s ss) ρ S) K E = Ws (execS cx s ρ S) (nxt cx ss K E) E := by
  simp only [execB, Ws_bind]
  congr 1
  funext fl S
  cases fl <;> rfl
theorem W_asg {t : CT} {e : CE} : Ws (execS cx (.asg t e) ρ S) K E = Wq (evalE cx e ρ S) (fun v S => Wq (assignE cx t v ρ S) (fun ρ' S => K (.nx ρ') S) NoX) (fun x S => E x ρ S) := by
  simp only [execS, Ws_at, Wq_nox, Ws_ok]
theorem W_asgn {i : Nat} {e : CE} : Ws (execS cx (.asg (.name i) e) ρ S) K E = Wq (evalE cx e ρ S) (fun v S => i < ρ.length ∧ K (.nx (ρ.set i (some v))) S) (fun x S => E x ρ S) := by
  simp only [W_asg, assignE, Wq_ite, Wq_ok, Wq_stuck]
  congr 1
  funext v S
  simp
theorem W_ex {e : CE} : Ws (execS cx (.ex e) ρ S) K E = Wq (evalE cx e ρ S) (fun _ S => K (.nx ρ) S) (fun x S => E x ρ S) := by simp only [execS, Ws_at, Ws_ok]
theorem W_rt {e : CE} : Ws (execS cx (.ret e) ρ S) K E = Wq (evalE cx e ρ S) (fun v S => K (.rt v) S) (fun x S => E x ρ S) := by simp only [execS, Ws_at, Ws_ok]
/-- a test -/
def Wt (cx : Cxi) (c : CE) (ρ : Env) (S : Store) (Q : Bool → Store → Prop) (E : Exn → Store → Prop) : Prop := Wq (evalE cx c ρ S) (fun x S => ∃ k, truthy S x = some k ∧ Q k S) E
theorem W_test {c : CE} {Q : Bool → Store → Prop} {E : Exn → Store → Prop} : Wq (testE cx c ρ S) Q E = Wt cx c ρ S Q E := by
  simp only [testE, Wq_bind, Wq_ofO, Wt]
theorem W_if {c : CE} {a b : CSs} : Ws (execS cx (.ite c a b) ρ S) K E = Wt cx c ρ S (fun k S => if k then Ws (execB cx a ρ S) K E else Ws (execB cx b ρ S) K E) (fun x S => E x ρ S) := by
  simp only [execS, Ws_at, W_test, Ws_ite]
end

/-! ### loops -/
/-- a while loop by an invariant and a measure -/
theorem W_while {cx : Cxi} {c : CE} {b : CSs} {ρ : Env} {S : Store} {K : Fl → Store → Prop} {E : Exn → Env → Store → Prop} (I : Env → Store → Prop) (μ : Env → Store → Nat) (h0 : I ρ S) (hμ : μ ρ S < cx.T.F)
    (hs : ∀ ρ S, I ρ S → Wt cx c ρ S (fun k S' => if k then Ws (execB cx b ρ S') (fun fl S2 => match fl with
      | .nx ρ2 => I ρ2 S2 ∧ μ ρ2 S2 < μ ρ S
      | .ct ρ2 => I ρ2 S2 ∧ μ ρ2 S2 < μ ρ S
      | .bk ρ2 => K (.nx ρ2) S2
      | .rt v => K (.rt v) S2) E else K (.nx ρ) S') (fun x S => E x ρ S)) : Ws (execS cx (.whl c b) ρ S) K E := by
  simp only [execS]
  have key : ∀ F ρ S, μ ρ S < F → I ρ S → Ws (whLoop (testE cx c) (execB cx b) F ρ S) K E := by
    intro F
    induction F with
    | zero => intro ρ S h; omega
    | succ F ih =>
      intro ρ S hF hI
      simp only [whLoop, Ws_at, W_test]
      refine (hs ρ S hI).mono (fun x S1 ⟨k, hk, q⟩ => ⟨k, hk, ?_⟩) fun _ _ z => z
      cases k with
      | false => exact q
      | true =>
        simp only [if_true, Ws_bind]
        refine Ws.mono (show Ws (execB cx b ρ S1) _ E from q) fun fl S2 q2 => ?_
        cases fl with
        | nx ρ2 => exact ih ρ2 S2 (by have := q2.2; omega) q2.1
        | ct ρ2 => exact ih ρ2 S2 (by have := q2.2; omega) q2.1
        | bk ρ2 => exact q2
        | rt v => exact q2
  exact key _ ρ S hμ h0
/-- a for loop: n items; x the item at turn i -/
theorem W_forI {cx : Cxi} {t : CT} {b : CSs} {J : ItV} {n : Nat} {ρ : Env} {S : Store} {K : Fl → Store → Prop} {E : Exn → Env → Store → Prop} (I : Nat → Env → Store → Prop) (h0 : I 0 ρ S) (hF : n < cx.T.F)
    (hn : ∀ i ρ S, I i ρ S → i ≤ n → (i < n → ∃ x, J.next i S = some (some x) ∧ Wq (assignE cx t x ρ S) (fun ρ1 S1 => Ws (execB cx b ρ1 S1) (fun fl S2 => match fl with
      | .nx ρ2 => I (i + 1) ρ2 S2
      | .ct ρ2 => I (i + 1) ρ2 S2
      | .bk ρ2 => K (.nx ρ2) S2
      | .rt v => K (.rt v) S2) E) NoX) ∧ (i = n → J.next i S = some none ∧ K (.nx ρ) S)) : Ws (frLoop (assignE cx t) (execB cx b) J cx.T.F 0 ρ S) K E := by
  have key : ∀ F i ρ S, n - i < F → i ≤ n → I i ρ S → Ws (frLoop (assignE cx t) (execB cx b) J F i ρ S) K E := by
    intro F
    induction F with
    | zero => intro i ρ S h; omega
    | succ F ih =>
      intro i ρ S hF hi hI
      obtain ⟨h1, h2⟩ := hn i ρ S hI hi
      by_cases hlt : i < n
      · obtain ⟨x, hx, q⟩ := h1 hlt
        simp only [frLoop, hx, Ws_at, Wq_nox]
        refine q.mono (fun ρ1 S1 q1 => ?_) fun _ _ z => z
        rw [Ws_bind]
        refine Ws.mono q1 fun fl S2 q2 => ?_
        cases fl with
        | nx ρ2 => exact ih (i + 1) ρ2 S2 (by omega) (by omega) q2
        | ct ρ2 => exact ih (i + 1) ρ2 S2 (by omega) (by omega) q2
        | bk ρ2 => exact q2
        | rt v => exact q2
      · obtain ⟨hx, q⟩ := h2 (by omega)
        simp only [frLoop, hx]
        exact q
  exact key _ 0 ρ S (by omega) (Nat.zero_le _) h0
theorem W_for {cx : Cxi} {t : CT} {ci : CI} {b : CSs} {ρ : Env} {S : Store} {K : Fl → Store → Prop} {E : Exn → Env → Store → Prop} :
    Ws (execS cx (.fr t ci b) ρ S) K E = Wq (iterE cx ci ρ S) (fun J S => Ws (frLoop (assignE cx t) (execB cx b) J cx.T.F 0 ρ S) K E) (fun x S => E x ρ S) := by
  simp only [execS, Ws_at]
/-- a comprehension's loop -/
theorem W_lcI {body : PV → Store → R (Option PV)} {J : ItV} {n F : Nat} {S : Store} {P : PV → Store → Prop} {E : Exn → Store → Prop} (I : Nat → List PV → Store → Prop) (h0 : I 0 [] S) (hF : n < F) (hn0 : n < nsz)
    (hn : ∀ i acc S, I i acc S → i ≤ n → acc.length ≤ i → (i < n → ∃ x, J.next i S = some (some x) ∧ Wq (body x S) (fun o S1 => match o with
      | none => I (i + 1) acc S1
      | some y => I (i + 1) (acc ++ [y]) S1) NoX) ∧ (i = n → J.next i S = some none ∧ P (.ref S.length) (S ++ [.lst acc]))) : Wq (lcLoop body J F 0 [] S) P E := by
  have key : ∀ F i acc S, n - i < F → i ≤ n → acc.length ≤ i → I i acc S → Wq (lcLoop body J F i acc S) P E := by
    intro F
    induction F with
    | zero => intro i acc S h; omega
    | succ F ih =>
      intro i acc S hF hi ha hI
      obtain ⟨h1, h2⟩ := hn i acc S hI hi ha
      by_cases hlt : i < n
      · obtain ⟨x, hx, q⟩ := h1 hlt
        simp only [lcLoop, hx, Wq_bind, Wq_nox]
        refine q.imp fun o S1 q1 => ?_
        cases o with
        | none => exact ih (i + 1) acc S1 (by omega) (by omega) (by omega) q1
        | some y =>
          show Wq (if acc.length < nsz then _ else _) _ _
          rw [if_pos (by omega)]
          exact ih (i + 1) (acc ++ [y]) S1 (by omega) (by omega) (by simp; omega) q1
      · obtain ⟨hx, q⟩ := h2 (by omega)
        simp only [lcLoop, hx]
        exact q
  exact key _ 0 [] S (by omega) (Nat.zero_le _) (Nat.le_refl _) h0
/-- the store grows -/
def Grow (S S' : Store) : Prop := ∃ Z, S' = S ++ Z
theorem Grow.refl (S : Store) : Grow S S := ⟨[], by simp⟩
theorem Grow.trans {S S1 S2 : Store} (a : Grow S S1) (b : Grow S1 S2) : Grow S S2 := by
  obtain ⟨Z, rfl⟩ := a
  obtain ⟨Z', rfl⟩ := b
  exact ⟨Z ++ Z', by simp⟩
theorem Grow.push (S Z : Store) : Grow S (S ++ Z) := ⟨Z, rfl⟩
theorem Grow.at {S S' : Store} (g : Grow S S') {n : Nat} {o : MO} (h : S[n]? = some o) : S'[n]? = some o := by
  obtain ⟨Z, rfl⟩ := g
  rw [List.getElem?_append_left (List.getElem?_eq_some_iff.mp h).1]
  exact h
theorem at_push {S : Store} {o : MO} : (S ++ [o])[S.length]? = some o := by simp
/-! ### small steps -/
section
variable {P : PV → Store → Prop} {E : Exn → Store → Prop} {S : Store}
theorem Wq_getV {ρ : Env} {i : Nat} : Wq (getV ρ i S) P E = ∃ v, ρ[i]? = some (some v) ∧ P v S := by
  unfold getV
  split
  · rename_i v h
    simp [h, Wq]
  · rename_i h
    simp only [Wq, eq_iff_iff, false_iff, not_exists, not_and]
    intro v hv
    exact (h v hv).elim
theorem tr_bl {b : Bool} : truthy S (.bl b) = some b := rfl
theorem tr_int {i : Int} : truthy S (.int i) = some (i != 0) := rfl
theorem tr_tup {xs : List PV} : truthy S (.tup xs) = some (!xs.isEmpty) := rfl
theorem tr_non : truthy S .non = some false := rfl
theorem c_eqi {a b : Int} : cop .eq (.int a) (.int b) S = some (a == b) := rfl
theorem c_nei {a b : Int} : cop .ne (.int a) (.int b) S = some (!(a == b)) := rfl
theorem c_eqs {a b : Sy} : cop .eq (.str a) (.str b) S = some (a == b) := rfl
theorem c_nes {a b : Sy} : cop .ne (.str a) (.str b) S = some (!(a == b)) := rfl
theorem c_eqb {a b : Bool} : cop .eq (.bl a) (.bl b) S = some (a == b) := rfl
theorem c_neb {a b : Bool} : cop .ne (.bl a) (.bl b) S = some (!(a == b)) := rfl
theorem c_lti {a b : Int} : cop .lt (.int a) (.int b) S = some (decide (a < b)) := rfl
theorem c_lei {a b : Int} : cop .le (.int a) (.int b) S = some (decide (a ≤ b)) := rfl
theorem c_gti {a b : Int} : cop .gt (.int a) (.int b) S = some (decide (b < a)) := rfl
theorem c_gei {a b : Int} : cop .ge (.int a) (.int b) S = some (decide (b ≤ a)) := rfl
theorem c_isb {a b : Bool} : cop .is (.bl a) (.bl b) S = some (decide (a = b)) := rfl
theorem c_isnb {a b : Bool} : cop .isn (.bl a) (.bl b) S = some (!decide (a = b)) := rfl
theorem c_in1 {c : Nat} {b : Sy} : cop .inn (.str [c]) (.str b) S = some (b.elem c) := rfl
theorem c_nin1 {c : Nat} {b : Sy} : cop .nin (.str [c]) (.str b) S = some (!b.elem c) := rfl
theorem b_addi {i j : Int} : bop .add (.int i) (.int j) S = .ok (.int (i + j)) S := rfl
theorem b_subi {i j : Int} : bop .sub (.int i) (.int j) S = .ok (.int (i - j)) S := rfl
theorem b_muli {i j : Int} (h : -W64 < j ∧ j < W64) : bop .mul (.int i) (.int j) S = .ok (.int (i * j)) S := if_pos (.inr h)
theorem b_modi {i j : Int} (h : 0 < j) : bop .mod (.int i) (.int j) S = .ok (.int (i % j)) S := if_pos h
theorem b_fdivi {i j : Int} (h : 0 < j ∧ j < 1073741824) : bop .fdiv (.int i) (.int j) S = .ok (.int (i / j)) S := if_pos h
theorem f_int {i : Int} : bfun .int [.int i] S = .ok (.int i) S := rfl
theorem f_abs {i : Int} : bfun .abs [.int i] S = .ok (.int (if i < 0 then -i else i)) S := rfl
theorem f_lenT {xs : List PV} : bfun .len [.tup xs] S = .ok (.int xs.length) S := rfl
theorem f_lenL {p : Nat} {xs : List PV} (h : S[p]? = some (.lst xs)) : bfun .len [.ref p] S = .ok (.int xs.length) S := by simp [bfun, h]
theorem f_lenC {xs : List PV} : bfun .len [.rol xs] S = .ok (.int xs.length) S := rfl
theorem f_lenS {x : Sy} (h : x.length ≤ nsz) : bfun .len [.str x] S = .ok (.int x.length) S := if_pos h
theorem g_L {p : Nat} {xs : List PV} {i : Int} (h : S[p]? = some (.lst xs)) : getIx (.ref p) (.int i) S = atI xs i := by simp [getIx, h]
theorem g_T {xs : List PV} {i : Int} : getIx (.tup xs) (.int i) S = atI xs i := rfl
theorem g_C {xs : List PV} {i : Int} : getIx (.rol xs) (.int i) S = atI xs i := rfl
theorem at_nat {α : Type} {xs : List α} {i : Int} (h0 : 0 ≤ i) (h1 : i < xs.length) : atI xs i = xs[i.toNat]? := by simp [atI, ixN, h0, h1]
theorem at_0 {α : Type} {a : α} {r : List α} : atI (a :: r) 0 = some a := by
  rw [at_nat (by decide) (by simp only [List.length_cons]; omega)]
  rfl
theorem at_1 {α : Type} {a b : α} {r : List α} : atI (a :: b :: r) 1 = some b := by
  rw [at_nat (by decide) (by simp only [List.length_cons]; omega)]
  rfl
theorem at_2 {α : Type} {a b c : α} {r : List α} : atI (a :: b :: c :: r) 2 = some c := by
  rw [at_nat (by decide) (by simp only [List.length_cons]; omega)]
  rfl
theorem at_3 {α : Type} {a b c d : α} {r : List α} : atI (a :: b :: c :: d :: r) 3 = some d := by
  rw [at_nat (by decide) (by simp only [List.length_cons]; omega)]
  rfl
theorem at_get {α : Type} {xs : List α} {i : Int} (h0 : 0 ≤ i) (h1 : i < xs.length) : ∃ x, atI xs i = some x ∧ x ∈ xs := by
  refine ⟨xs[i.toNat]'(by omega), by rw [at_nat h0 h1]; simp, List.getElem_mem _⟩
theorem x_L {p : Nat} {xs : List PV} {i : Int} {v : PV} (h : S[p]? = some (.lst xs)) (h0 : 0 ≤ i) (h1 : i < xs.length) : setIx (.ref p) (.int i) v S = some (S.set p (.lst (xs.set i.toNat v))) := by simp [setIx, h, ixN, h0, h1]
end
/-- a test by its wp -/
theorem Wt_and {cx : Cxi} {a b : CE} {ρ : Env} {S : Store} {Q : Bool → Store → Prop} {E : Exn → Store → Prop} : Wt cx (.and a b) ρ S Q E = Wt cx a ρ S (fun k S => if k then Wt cx b ρ S Q E else Q false S) E := by
  simp only [Wt, evalE, Wq_bind, Wq_ofO]
  congr 1
  funext x S1
  simp only [eq_iff_iff]
  constructor
  · rintro ⟨k, hk, h⟩
    refine ⟨k, hk, ?_⟩
    cases k with
    | true => exact h
    | false =>
      obtain ⟨k2, h1, h2⟩ := h
      rw [hk] at h1
      cases h1
      exact h2
  · rintro ⟨k, hk, h⟩
    refine ⟨k, hk, ?_⟩
    cases k with
    | true => exact h
    | false => exact ⟨false, hk, h⟩
theorem Wt_or {cx : Cxi} {a b : CE} {ρ : Env} {S : Store} {Q : Bool → Store → Prop} {E : Exn → Store → Prop} : Wt cx (.or a b) ρ S Q E = Wt cx a ρ S (fun k S => if k then Q true S else Wt cx b ρ S Q E) E := by
  simp only [Wt, evalE, Wq_bind, Wq_ofO]
  congr 1
  funext x S1
  simp only [eq_iff_iff]
  constructor
  · rintro ⟨k, hk, h⟩
    refine ⟨k, hk, ?_⟩
    cases k with
    | false => exact h
    | true =>
      obtain ⟨k2, h1, h2⟩ := h
      rw [hk] at h1
      cases h1
      exact h2
  · rintro ⟨k, hk, h⟩
    refine ⟨k, hk, ?_⟩
    cases k with
    | false => exact h
    | true => exact ⟨true, hk, h⟩
theorem Wt_not {cx : Cxi} {a : CE} {ρ : Env} {S : Store} {Q : Bool → Store → Prop} {E : Exn → Store → Prop} : Wt cx (.nt a) ρ S Q E = Wt cx a ρ S (fun k S => Q (!k) S) E := by
  simp only [Wt, evalE, Wq_bind, Wq_ofO, Wq_ok, tr_bl]
  congr 1
  funext x S1
  simp
/-! ### loops, kept shut -/
/-- a for loop about to run -/
def Lp (cx : Cxi) (t : CT) (b : CSs) (J : ItV) (ρ : Env) (S : Store) (K : Fl → Store → Prop) (E : Exn → Env → Store → Prop) : Prop := Ws (frLoop (assignE cx t) (execB cx b) J cx.T.F 0 ρ S) K E
theorem W_fr {cx : Cxi} {t : CT} {ci : CI} {b : CSs} {ρ : Env} {S : Store} {K : Fl → Store → Prop} {E : Exn → Env → Store → Prop} :
    Ws (execS cx (.fr t ci b) ρ S) K E = Wq (iterE cx ci ρ S) (fun J S => Lp cx t b J ρ S K E) (fun x S => E x ρ S) := W_for
theorem Lp_I {cx : Cxi} {t : CT} {b : CSs} {J : ItV} {ρ : Env} {S : Store} {K : Fl → Store → Prop} {E : Exn → Env → Store → Prop} (n : Nat) (I : Nat → Env → Store → Prop) (h0 : I 0 ρ S) (hF : n < cx.T.F)
    (hn : ∀ i ρ S, I i ρ S → i ≤ n → (i < n → ∃ x, J.next i S = some (some x) ∧ Wq (assignE cx t x ρ S) (fun ρ1 S1 => Ws (execB cx b ρ1 S1) (fun fl S2 => match fl with
      | .nx ρ2 => I (i + 1) ρ2 S2
      | .ct ρ2 => I (i + 1) ρ2 S2
      | .bk ρ2 => K (.nx ρ2) S2
      | .rt v => K (.rt v) S2) E) NoX) ∧ (i = n → J.next i S = some none ∧ K (.nx ρ) S)) : Lp cx t b J ρ S K E := W_forI I h0 hF hn
/-- a comprehension about to run -/
def Lcw (cx : Cxi) (vs : List Nat) (t : CT) (cond elt : CE) (J : ItV) (ρ : Env) (S : Store) (P : PV → Store → Prop) (E : Exn → Store → Prop) : Prop :=
  Wq (lcLoop (fun x S => (assignE cx t x (wipe ρ vs) S).bind fun ρ' S => (evalE cx cond ρ' S).bind fun c S => (ofO (truthy S c) S).bind fun k S => if k then (evalE cx elt ρ' S).bind fun y S => .ok (some y) S else .ok none S) J cx.T.F 0 [] S) P E
theorem W_lc {cx : Cxi} {vs : List Nat} {t : CT} {ci : CI} {cond elt : CE} {ρ : Env} {S : Store} {P : PV → Store → Prop} {E : Exn → Store → Prop} :
    Wq (evalE cx (.lc vs t ci cond elt) ρ S) P E = Wq (iterE cx ci ρ S) (fun J S => Lcw cx vs t cond elt J ρ S P E) E := by
  simp only [evalE, Wq_bind, Lcw]
/-- a comprehension without a condition, by an invariant -/
theorem Lcw_I {cx : Cxi} {vs : List Nat} {t : CT} {elt : CE} {J : ItV} {ρ : Env} {S : Store} {P : PV → Store → Prop} {E : Exn → Store → Prop} (n : Nat) (I : Nat → List PV → Store → Prop) (h0 : I 0 [] S) (hF : n < cx.T.F) (hz : n < nsz)
    (hn : ∀ i acc S, I i acc S → i ≤ n → acc.length ≤ i → (i < n → ∃ x, J.next i S = some (some x) ∧ Wq (assignE cx t x (wipe ρ vs) S) (fun ρ1 S1 => Wq (evalE cx elt ρ1 S1) (fun y S2 => I (i + 1) (acc ++ [y]) S2) NoX) NoX) ∧ (i = n → J.next i S = some none ∧ P (.ref S.length) (S ++ [.lst acc]))) : Lcw cx vs t (.con (.bl true)) elt J ρ S P E := by
  refine W_lcI I h0 hF hz fun i acc S hI hi ha => ⟨fun hlt => ?_, (hn i acc S hI hi ha).2⟩
  obtain ⟨x, hx, h⟩ := (hn i acc S hI hi ha).1 hlt
  refine ⟨x, hx, ?_⟩
  simp only [Wq_bind, evalE, Wq_ok, Wq_ofO, tr_bl, Option.some.injEq, exists_eq_left', Wq_ite, if_true]
  exact h
theorem W_asub {cx : Cxi} {ρ : Env} {S : Store} {K : Fl → Store → Prop} {E : Exn → Env → Store → Prop} {o i e : CE} : Ws (execS cx (.asg (.sub o i) e) ρ S) K E = Wq (evalE cx e ρ S) (fun v S => Wq (evalE cx o ρ S) (fun x S => Wq (evalE cx i ρ S) (fun y S => ∃ S', setIx x y v S = some S' ∧ K (.nx ρ) S') NoX) NoX) (fun x S => E x ρ S) := by
  simp only [W_asg, assignE, Wq_bind, Wq_ofO, Wq_ok]
theorem W_atup {cx : Cxi} {ρ : Env} {S : Store} {K : Fl → Store → Prop} {E : Exn → Env → Store → Prop} {ts : CTs} {e : CE} : Ws (execS cx (.asg (.tup ts) e) ρ S) K E = Wq (evalE cx e ρ S) (fun v S => Wq (assignE cx (.tup ts) v ρ S) (fun ρ' S => K (.nx ρ') S) NoX) (fun x S => E x ρ S) := W_asg
theorem nxt_nx {cx : Cxi} {ss : CSs} {K : Fl → Store → Prop} {E : Exn → Env → Store → Prop} {ρ : Env} {S : Store} : nxt cx ss K E (.nx ρ) S = Ws (execB cx ss ρ S) K E := rfl
theorem nxt_rt {cx : Cxi} {ss : CSs} {K : Fl → Store → Prop} {E : Exn → Env → Store → Prop} {v : PV} {S : Store} : nxt cx ss K E (.rt v) S = K (.rt v) S := rfl
theorem nxt_bk {cx : Cxi} {ss : CSs} {K : Fl → Store → Prop} {E : Exn → Env → Store → Prop} {ρ : Env} {S : Store} : nxt cx ss K E (.bk ρ) S = K (.bk ρ) S := rfl
theorem nxt_ct {cx : Cxi} {ss : CSs} {K : Fl → Store → Prop} {E : Exn → Env → Store → Prop} {ρ : Env} {S : Store} : nxt cx ss K E (.ct ρ) S = K (.ct ρ) S := rfl
theorem retK_rt {P : PV → Store → Prop} {v : PV} {S : Store} : retK P (.rt v) S = P v S := rfl
theorem retK_nx {P : PV → Store → Prop} {ρ : Env} {S : Store} : retK P (.nx ρ) S = P .non S := rfl
theorem W_pass {cx : Cxi} {ρ : Env} {S : Store} {K : Fl → Store → Prop} {E : Exn → Env → Store → Prop} : Ws (execS cx .pass ρ S) K E = K (.nx ρ) S := rfl
theorem W_brk {cx : Cxi} {ρ : Env} {S : Store} {K : Fl → Store → Prop} {E : Exn → Env → Store → Prop} : Ws (execS cx .brk ρ S) K E = K (.bk ρ) S := rfl
theorem W_cnt {cx : Cxi} {ρ : Env} {S : Store} {K : Fl → Store → Prop} {E : Exn → Env → Store → Prop} : Ws (execS cx .cnt ρ S) K E = K (.ct ρ) S := rfl
theorem W_retn {cx : Cxi} {ρ : Env} {S : Store} {K : Fl → Store → Prop} {E : Exn → Env → Store → Prop} : Ws (execS cx .retn ρ S) K E = K (.rt .non) S := rfl
/-! ### tests as propositions -/
section
variable {cx : Cxi} {ρ : Env} {S : Store} {Q : Bool → Store → Prop} {E : Exn → Store → Prop}
theorem Wq_isi {a : CE} {t : Ty} {P : PV → Store → Prop} : Wq (evalE cx (.isi a t) ρ S) P E = Wq (evalE cx a ρ S) (fun x S => ∃ k, isTy S x t = some k ∧ P (.bl k) S) E := by
  simp only [evalE, Wq_bind, Wq_ofO, Wq_ok]
end
end L3
/-! L3Strm: the laws' stream of draws, once for all. -/
namespace L3
local macro_rules | `(tactic| walk_at "e") => `(tactic| try simp only [Wt_and, Wt_or, Wt_not, Wt, evalE, evalEs, evalO, assignE, Wq_bind, Wq_ok, Wq_ofO, Wq_getV, Wq_ite, Wq_stuck, List.getElem?_cons_zero, List.getElem?_cons_succ, List.set_cons_zero, List.set_cons_succ, List.length_cons, List.length_nil, Option.some.injEq, exists_eq_left', exists_eq_left, tr_bl, tr_int, tr_tup, tr_non,
  c_eqi, c_nei, c_eqs, c_nes, c_eqb, c_neb, c_lti, c_lei, c_gti, c_gei, c_isb, c_isnb, c_in1, c_nin1, b_addi, b_subi, f_int, f_abs, f_lenT, f_lenC, g_T, g_C, at_0, at_1, at_2, at_3])
/-- the stream at s: its list at q, a part of a cell, the next cell, the mixed number -/
structure Strm (S : Store) (s : Nat) : Prop where
  ex : ∃ q ns a k m, S[s]? = some (.lst [.ref q, .int a, .int k, .int m]) ∧ S[q]? = some (.lst (List.map PV.int ns)) ∧ s ≠ q ∧ 0 ≤ a ∧ 0 ≤ k ∧ k ≤ (ns.length : Int) ∧ ns.length ≤ 63
theorem Strm.mk' {S : Store} {s q : Nat} {ns : List Int} {a k m : Int} {xs : List PV} (h : S[s]? = some (.lst xs)) (hq : S[q]? = some (.lst (ns.map .int))) (hne : s ≠ q) (ha : 0 ≤ a) (hk : 0 ≤ k) (hl : k ≤ (ns.length : Int)) (h63 : ns.length ≤ 63) :
    Strm (S.set s (.lst [.ref q, .int a, .int k, .int m])) s :=
  ⟨q, ns, a, k, m, by rw [List.getElem?_set_self (List.getElem?_eq_some_iff.mp h).1], by rw [List.getElem?_set_ne hne]; exact hq, hne, ha, hk, hl, h63⟩
def iDraw : CS := (.ite (.and (.cmp .eq (.idx (.var 0) (.con (.int 1))) (.con (.int 0))) (.cmp .lt (.idx (.var 0) (.con (.int 2))) (.bf .len (.cons (.idx (.var 0) (.con (.int 0))) .nil)))) (.cons (.asg (.sub (.var 0) (.con (.int 1))) (.bf .abs (.cons (.bf .int (.cons (.idx (.idx (.var 0) (.con (.int 0))) (.idx (.var 0) (.con (.int 2)))) .nil)) .nil))) (.cons (.asg (.sub (.var 0) (.con (.int 2))) (.bin .add (.idx (.var 0) (.con (.int 2))) (.con (.int 1)))) .nil)) .nil)
def bDraw2 : CSs := (.cons (.ite (.cmp .eq (.idx (.var 0) (.con (.int 1))) (.con (.int 0))) (.cons (.asg (.sub (.var 0) (.con (.int 3))) (.bin .mod (.bf .int (.cons (.bin .add (.bin .mul (.idx (.var 0) (.con (.int 3))) (.con (.int 48271))) (.con (.int 11))) .nil)) (.con (.int 2147483647)))) (.cons (.ret (.bin .mod (.bf .int (.cons (.bin .fdiv (.idx (.var 0) (.con (.int 3))) (.con (.int 97))) .nil)) (.var 1))) .nil)) .nil) (.cons (.asg (.name 2) (.bin .mod (.bf .int (.cons (.idx (.var 0) (.con (.int 1))) .nil)) (.var 1))) (.cons (.asg (.sub (.var 0) (.con (.int 1))) (.bin .fdiv (.idx (.var 0) (.con (.int 1))) (.var 1))) (.cons (.ret (.var 2)) .nil))))
def bDraw : CSs := .cons iDraw bDraw2
def fDraw : Fn := ⟨2, 3, bDraw⟩
def bStream : CSs := (.cons (.asg (.name 1) (.con (.int 17))) (.cons (.fr (.name 2) (.seq (.var 0)) (.cons (.asg (.name 1) (.bin .mod (.bf .int (.cons (.bin .add (.bin .add (.bin .mul (.var 1) (.con (.int 48271))) (.bin .mod (.bf .int (.cons (.var 2) .nil)) (.con (.int 65521)))) (.con (.int 1))) .nil)) (.con (.int 2147483647)))) .nil)) (.cons (.ret (.lst (.cons (.bf .list (.cons (.var 0) .nil)) (.cons (.con (.int 0)) (.cons (.con (.int 0)) (.cons (.var 1) .nil)))))) .nil)))
def fStream : Fn := ⟨1, 3, bStream⟩
section
variable {S : Store} {p : Nat} {a b c d v : PV}
theorem x4_1 (h : S[p]? = some (.lst [a, b, c, d])) : setIx (.ref p) (.int 1) v S = some (S.set p (.lst [a, v, c, d])) := by rw [x_L h (by decide) (by simp only [List.length_cons, List.length_nil]; omega)]; rfl
theorem x4_2 (h : S[p]? = some (.lst [a, b, c, d])) : setIx (.ref p) (.int 2) v S = some (S.set p (.lst [a, b, v, d])) := by rw [x_L h (by decide) (by simp only [List.length_cons, List.length_nil]; omega)]; rfl
theorem x4_3 (h : S[p]? = some (.lst [a, b, c, d])) : setIx (.ref p) (.int 3) v S = some (S.set p (.lst [a, b, c, v])) := by rw [x_L h (by decide) (by simp only [List.length_cons, List.length_nil]; omega)]; rfl
end
/-- the draw's second half, the stream's list as it stands -/
theorem draw2 {T : Tab} {n s q : Nat} {ns : List Int} {many a k m : Int} {S : Store} {K : Fl → Store → Prop} {E : Exn → Env → Store → Prop} (e1 : S[s]? = some (.lst [.ref q, .int a, .int k, .int m])) (e2 : S[q]? = some (.lst (ns.map .int))) (hne : s ≠ q) (ha : 0 ≤ a) (hk : 0 ≤ k) (hl : k ≤ (ns.length : Int)) (h63 : ns.length ≤ 63)
    (h0 : 0 < many) (h1 : many < 1073741824) (hK : ∀ r o, 0 ≤ r → r < many → Strm (S.set s o) s → K (.rt (.int r)) (S.set s o)) :
    Ws (execB (cxF T n) bDraw2 [some (.ref s), some (.int many), none] S) K E := by
  have hsl := (List.getElem?_eq_some_iff.mp e1).1
  have g1 : ∀ o : List PV, (S.set s (.lst o))[s]? = some (.lst o) := fun o => List.getElem?_set_self hsl
  rw [bDraw2, W_cons, W_if]
  walk_at "e"
  simp only [g_L e1]
  walk_at "e"
  by_cases h : a = 0
  · subst h
    simp only [beq_self_eq_true, if_true]
    rw [W_cons, W_asub]
    walk_at "e"
    simp only [g_L e1]
    walk_at "e"
    simp only [b_muli (show -W64 < 48271 ∧ 48271 < W64 by decide)]
    walk_at "e"
    simp only [b_modi (show (0 : Int) < 2147483647 by decide)]
    walk_at "e"
    simp only [x4_3 e1]
    walk_at "e"
    simp only [nxt]
    rw [W_cons, W_rt]
    walk_at "e"
    simp only [g_L (g1 _)]
    walk_at "e"
    simp only [b_fdivi (show (0 : Int) < 97 ∧ (97 : Int) < 1073741824 by decide)]
    walk_at "e"
    simp only [b_modi h0]
    walk_at "e"
    exact hK _ _ (Int.emod_nonneg _ (by omega)) (Int.emod_lt_of_pos _ h0) (Strm.mk' e1 e2 hne (by omega) hk hl h63)
  · simp only [beq_iff_eq, h, if_false, execB, Ws_ok, nxt]
    rw [Ws_bind, W_asgn]
    walk_at "e"
    simp only [g_L e1]
    walk_at "e"
    simp only [b_modi h0]
    walk_at "e"
    refine ⟨by omega, ?_⟩
    rw [Ws_bind, W_asub]
    walk_at "e"
    simp only [g_L e1]
    walk_at "e"
    simp only [b_fdivi ⟨h0, h1⟩]
    walk_at "e"
    simp only [x4_1 e1]
    walk_at "e"
    rw [Ws_bind, W_rt]
    walk_at "e"
    rw [Ws_ok]
    exact hK _ _ (Int.emod_nonneg _ (by omega)) (Int.emod_lt_of_pos _ h0) (Strm.mk' e1 e2 hne (Int.ediv_nonneg ha (by omega)) hk hl h63)
theorem draw_spec {T : Tab} {n d s : Nat} {many : Int} {S : Store} {P : PV → Store → Prop} {E : Exn → Store → Prop} (hd : T.fns[d]? = some fDraw) (hs : Strm S s) (h0 : 0 < many) (h1 : many < 1073741824)
    (hP : ∀ r o, 0 ≤ r → r < many → Strm (S.set s o) s → P (.int r) (S.set s o)) : Wq (callF T (n + 1) d [.ref s, .int many] S) P E := by
  obtain ⟨q, ns, a, k, m, e1, e2, hne, ha, hk, hl, h63⟩ := hs
  have hsl := (List.getElem?_eq_some_iff.mp e1).1
  have g1 : ∀ o : List PV, (S.set s (.lst o))[s]? = some (.lst o) := fun o => List.getElem?_set_self hsl
  have g2 : ∀ o : MO, (S.set s o)[q]? = some (.lst (ns.map .int)) := fun o => by rw [List.getElem?_set_ne hne]; exact e2
  have g11 : ∀ (o : List PV) (o' : MO), ((S.set s o').set s (.lst o))[s]? = some (.lst o) := fun o o' => List.getElem?_set_self (by simpa using hsl)
  refine Wq_call hd rfl ?_
  simp only [fDraw, bDraw, iDraw, startEnv, List.map_cons, List.map_nil, List.length_cons, List.length_nil, List.replicate, List.cons_append, List.nil_append]
  rw [W_cons, W_if]
  walk_at "e"
  simp only [g_L e1]
  walk_at "e"
  simp only [f_lenL e2]
  walk_at "e"
  by_cases h : a = 0
  · subst h
    simp only [beq_self_eq_true, if_true, decide_eq_true_eq, List.length_map]
    by_cases hlt : k < ns.length
    · simp only [if_pos hlt]
      rw [W_cons, W_asub]
      walk_at "e"
      simp only [g_L e1]
      walk_at "e"
      have hat : getIx (.ref q) (.int k) S = some (.int (ns[k.toNat]'(by omega))) := by
        rw [g_L e2, at_nat hk (by simpa using hlt)]
        simp
      simp only [hat]
      walk_at "e"
      simp only [x4_1 e1]
      walk_at "e"
      simp only [nxt]
      rw [W_cons, W_asub]
      walk_at "e"
      simp only [g_L (g1 _)]
      walk_at "e"
      simp only [x4_2 (g1 _)]
      walk_at "e"
      simp only [nxt, execB, Ws_ok]
      refine draw2 (q := q) (ns := ns) (a := if ns[k.toNat]'(by omega) < 0 then -(ns[k.toNat]'(by omega)) else ns[k.toNat]'(by omega)) (k := k + 1) (m := m) (by rw [g11]) (by rw [List.getElem?_set_ne hne]; exact g2 _) hne (by split <;> omega) (by omega) (by omega) h63 h0 h1 ?_
      intro r o r0 r1 hS
      rw [List.set_set, List.set_set] at hS ⊢
      exact hP r o r0 r1 hS
    · simp only [if_neg hlt, execB, Ws_ok, nxt]
      exact draw2 e1 e2 hne ha hk hl h63 h0 h1 fun r o r0 r1 hS => hP r o r0 r1 hS
  · simp only [beq_iff_eq, h, if_false, execB, Ws_ok, nxt, Bool.false_eq_true]
    exact draw2 e1 e2 hne ha hk hl h63 h0 h1 fun r o r0 r1 hS => hP r o r0 r1 hS
theorem stream_spec {T : Tab} {n d : Nat} {ns : List Int} {S : Store} {P : PV → Store → Prop} {E : Exn → Store → Prop} (hd : T.fns[d]? = some fStream) (h63 : ns.length ≤ 63) (hF : 1000 ≤ T.F)
    (hP : ∀ m, Strm (S ++ [.lst (ns.map .int)] ++ [.lst [.ref S.length, .int 0, .int 0, .int m]]) (S.length + 1) → P (.ref (S.length + 1)) (S ++ [.lst (ns.map .int)] ++ [.lst [.ref S.length, .int 0, .int 0, .int m]])) : Wq (callF T (n + 1) d [.rol (ns.map .int)] S) P E := by
  refine Wq_call hd rfl ?_
  simp only [fStream, bStream, startEnv, List.map_cons, List.map_nil, List.length_cons, List.length_nil, List.replicate, List.cons_append, List.nil_append]
  rw [W_cons, W_asgn]
  walk_at "e"
  refine ⟨by omega, ?_⟩
  simp only [nxt]
  rw [W_cons, W_fr]
  simp only [iterE, seqIt]
  walk_at "e"
  refine Lp_I ns.length (fun i ρ S1 => S1 = S ∧ ∃ m c, ρ = [some (.rol (ns.map .int)), some (.int m), c]) ⟨rfl, 17, none, rfl⟩ (Nat.lt_of_lt_of_le (Nat.lt_of_le_of_lt h63 (by decide)) hF) ?_
  rintro i ρ S1 ⟨rfl, m, c, rfl⟩ hi
  refine ⟨fun hlt => ⟨.int (ns[i]'hlt), by simp [ItV.next, hlt], ?_⟩, fun he => ⟨by simp [ItV.next, he], ?_⟩⟩
  · walk_at "e"
    simp only [show 2 < 0 + 1 + 1 + 1 from by omega, if_true]
    rw [W_cons, W_asgn]
    walk_at "e"
    simp only [b_muli (show -W64 < 48271 ∧ 48271 < W64 by decide)]
    walk_at "e"
    simp only [b_modi (show (0 : Int) < 65521 by decide)]
    walk_at "e"
    simp only [b_modi (show (0 : Int) < 2147483647 by decide)]
    walk_at "e"
    refine ⟨by omega, ?_⟩
    simp only [nxt, execB, Ws_ok]
    exact ⟨trivial, _, _, rfl⟩
  · simp only [nxt]
    rw [W_cons, W_rt]
    walk_at "e"
    simp only [bfun, Wq_ok]
    walk_at "e"
    simp only [show 0 + 1 + 1 + 1 + 1 ≤ nsz from by decide, if_true, nxt, retK, List.length_append, List.length_cons, List.length_nil]
    refine hP m ⟨S1.length, ns, 0, 0, m, ?_, ?_, by omega, by omega, by omega, by omega, h63⟩
    · rw [show S1.length + 1 = (S1 ++ [MO.lst (ns.map .int)]).length by simp]
      exact at_push
    · rw [List.getElem?_append_left (by simp)]
      exact at_push
end L3
/-! L3Ev: how the store changes under draws; values whose lists are there. -/
namespace L3
/-- from S to S': what lies elsewhere than at s stands; at s is a stream -/
structure Ev (s : Nat) (S S' : Store) : Prop where
  at' : ∀ p o, p ≠ s → S[p]? = some o → S'[p]? = some o
  st : Strm S' s
theorem Strm.lt {S : Store} {s : Nat} (h : Strm S s) : s < S.length := by
  obtain ⟨q, ns, a, k, m, e1, _⟩ := h
  exact (List.getElem?_eq_some_iff.mp e1).1
theorem Strm.grow {S S' : Store} {s : Nat} (h : Strm S s) (g : Grow S S') : Strm S' s := by
  obtain ⟨q, ns, a, k, m, e1, e2, r⟩ := h
  exact ⟨q, ns, a, k, m, g.at e1, g.at e2, r⟩
theorem Ev.refl {S : Store} {s : Nat} (h : Strm S s) : Ev s S S := ⟨fun _ _ _ e => e, h⟩
theorem Ev.trans {S S1 S2 : Store} {s : Nat} (a : Ev s S S1) (b : Ev s S1 S2) : Ev s S S2 := ⟨fun p o hp e => b.at' p o hp (a.at' p o hp e), b.st⟩
theorem Ev.grow {S S1 S2 : Store} {s : Nat} (a : Ev s S S1) (g : Grow S1 S2) : Ev s S S2 := ⟨fun p o hp e => g.at (a.at' p o hp e), a.st.grow g⟩
theorem Ev.push {S S1 Z : Store} {s : Nat} (a : Ev s S S1) : Ev s S (S1 ++ Z) := a.grow (Grow.push _ _)
theorem Ev.len {S S' : Store} {s : Nat} (a : Ev s S S') : S.length ≤ S'.length := by
  by_cases h : S'.length < S.length
  · exfalso
    have hs := a.st.lt
    have := a.at' S'.length (S[S'.length]'h) (by omega) (by simp)
    simp at this
  · omega
theorem draw_ev {T : Tab} {n d s : Nat} {many : Int} {S : Store} {P : PV → Store → Prop} {E : Exn → Store → Prop} (hd : T.fns[d]? = some fDraw) (hs : Strm S s) (h0 : 0 < many) (h1 : many < 1073741824)
    (hP : ∀ r S', 0 ≤ r → r < many → Ev s S S' → P (.int r) S') : Wq (callF T (n + 1) d [.ref s, .int many] S) P E :=
  draw_spec hd hs h0 h1 fun r o r0 r1 hS => hP r _ r0 r1 ⟨fun p o' hp e => by rw [List.getElem?_set_ne (fun h => hp h.symm)]; exact e, hS⟩
mutual
/-- the value's lists are there, its texts are not long -/
def okv (s : Nat) (S : Store) : PV → Prop
  | .ref p => p ≠ s ∧ ∃ xs, S[p]? = some (.lst xs)
  | .tup xs => okvs s S xs
  | .str x => x.length ≤ nsz
  | _ => True
def okvs (s : Nat) (S : Store) : List PV → Prop
  | [] => True
  | x :: xs => okv s S x ∧ okvs s S xs
end
mutual
theorem okv.keep {s : Nat} {S S' : Store} (e : ∀ p o, p ≠ s → S[p]? = some o → S'[p]? = some o) : ∀ {x : PV}, okv s S x → okv s S' x
  | .ref p, ⟨h, xs, h1⟩ => ⟨h, xs, e _ _ h h1⟩
  | .tup xs, h => okvs.keep e (x := xs) h
  | .str x, h => h
  | .non, _ => trivial
  | .bl _, _ => trivial
  | .int _, _ => trivial
  | .rol _, _ => trivial
theorem okvs.keep {s : Nat} {S S' : Store} (e : ∀ p o, p ≠ s → S[p]? = some o → S'[p]? = some o) : ∀ {x : List PV}, okvs s S x → okvs s S' x
  | [], _ => trivial
  | x :: xs, h => ⟨okv.keep e h.1, okvs.keep e h.2⟩
end
theorem okv.ev {s : Nat} {S S' : Store} {x : PV} (h : okv s S x) (e : Ev s S S') : okv s S' x := h.keep e.at'
theorem okv.grow {s : Nat} {S S' : Store} {x : PV} (h : okv s S x) (e : Grow S S') : okv s S' x := h.keep fun _ _ _ q => e.at q
theorem okvs_iff {s : Nat} {S : Store} : ∀ {xs : List PV}, okvs s S xs ↔ ∀ x ∈ xs, okv s S x
  | [] => by simp [okvs]
  | x :: xs => by simp [okvs, okvs_iff (xs := xs)]
/-- isinstance without the store -/
def tyB : PV → Ty → Bool
  | .bl _, .int => true
  | .bl _, .bool => true
  | .int _, .int => true
  | .str _, .str => true
  | .tup _, .tuple => true
  | .rol _, .list => true
  | .ref _, .list => true
  | _, _ => false
theorem isTy_ok {s : Nat} {S : Store} {v : PV} {t : Ty} (h : okv s S v) : isTy S v t = some (tyB v t) := by
  cases v with
  | ref p =>
    obtain ⟨_, xs, h⟩ := h
    simp only [isTy, h]
    cases t <;> rfl
  | _ => cases t <;> rfl
theorem cxF_T {T : Tab} {n : Nat} : (cxF T n).T = T := rfl
theorem cxF_call {T : Tab} {n : Nat} : (cxF T n).call = callF T n := rfl
theorem wipe_nil {ρ : Env} : wipe ρ [] = ρ := rfl
theorem wipe_1 {ρ : Env} {v : Nat} : wipe ρ [v] = ρ.set v none := rfl
theorem bools_map {α : Type} {f : α → Bool} : ∀ xs : List α, bools (xs.map fun x => .bl (f x)) = some (xs.map f)
  | [] => rfl
  | x :: xs => by
    simp only [List.map_cons, bools, bools_map xs, Option.map_some]
theorem f_all {α : Type} {S : Store} {p : Nat} {xs : List α} {f : α → Bool} (h : S[p]? = some (.lst (xs.map fun x => .bl (f x)))) : bfun .all [.ref p] S = .ok (.bl (xs.all f)) S := by
  simp only [bfun, h, bools_map, List.all_map]
  rfl
theorem f_any {α : Type} {S : Store} {p : Nat} {xs : List α} {f : α → Bool} (h : S[p]? = some (.lst (xs.map fun x => .bl (f x)))) : bfun .any [.ref p] S = .ok (.bl (xs.any f)) S := by
  simp only [bfun, h, bools_map, List.any_map]
  rfl
/-- `all` of a comprehension over a sequence, each item's answer known; calls push only -/
theorem lc_map {cx : Cxi} {vs : List Nat} {t : CT} {elt : CE} {xs : List PV} {ρ : Env} {S : Store} {P : PV → Store → Prop} {E : Exn → Store → Prop} (f : PV → PV) (J : ItV) (hJ : ∀ i S', Grow S S' → J.next i S' = some xs[i]?) (hF : xs.length < cx.T.F) (hz : xs.length < nsz)
    (hb : ∀ x S', x ∈ xs → Grow S S' → Wq (assignE cx t x (wipe ρ vs) S') (fun ρ1 S1 => Wq (evalE cx elt ρ1 S1) (fun y S2 => Grow S1 S2 ∧ y = f x) NoX) NoX)
    (hg : ∀ x S' ρ1 S1, assignE cx t x (wipe ρ vs) S' = .ok ρ1 S1 → Grow S' S1)
    (hP : ∀ S', Grow S S' → P (.ref S'.length) (S' ++ [.lst (xs.map f)])) : Lcw cx vs t (.con (.bl true)) elt J ρ S P E := by
  refine Lcw_I xs.length (fun i acc S' => Grow S S' ∧ acc = (xs.take i).map f) ⟨Grow.refl _, by simp⟩ hF hz ?_
  rintro i acc S' ⟨g, rfl⟩ hi ha
  refine ⟨fun hlt => ⟨xs[i], ?_, ?_⟩, fun he => ⟨?_, ?_⟩⟩
  · rw [hJ i S' g]
    simp [hlt]
  · have h1 := hb xs[i] S' (List.getElem_mem _) g
    have h2 := hg xs[i] S'
    cases he : assignE cx t xs[i] (wipe ρ vs) S' with
    | ok ρ1 S1 =>
      rw [he, Wq_ok] at h1
      rw [Wq_ok]
      refine h1.imp fun y S2 q => ⟨g.trans ((h2 _ _ he).trans q.1), ?_⟩
      rw [q.2, List.take_add_one, List.map_append]
      simp [hlt]
    | exc x S1 => rw [he] at h1; exact h1
    | stuck => rw [he] at h1; exact h1
  · rw [hJ i S' g]
    simp [he]
  · have := hP S' g
    rw [he, List.take_length]
    exact this
theorem lc_name {cx : Cxi} {vs : List Nat} {i : Nat} {elt : CE} {xs : List PV} {ρ : Env} {S : Store} {P : PV → Store → Prop} {E : Exn → Store → Prop} (f : PV → PV) (J : ItV) (hJ : ∀ i S', Grow S S' → J.next i S' = some xs[i]?) (hi : i < (wipe ρ vs).length) (hF : xs.length < cx.T.F) (hz : xs.length < nsz)
    (hb : ∀ x S', x ∈ xs → Grow S S' → Wq (evalE cx elt ((wipe ρ vs).set i (some x)) S') (fun y S2 => Grow S' S2 ∧ y = f x) NoX)
    (hP : ∀ S', Grow S S' → P (.ref S'.length) (S' ++ [.lst (xs.map f)])) : Lcw cx vs (.name i) (.con (.bl true)) elt J ρ S P E := by
  refine lc_map f J hJ hF hz (fun x S' hx g => ?_) (fun x S' ρ1 S1 he => ?_) hP
  · rw [assignE, if_pos hi, Wq_ok]
    exact hb x S' hx g
  · rw [assignE, if_pos hi] at he
    cases he
    exact Grow.refl _
theorem lc_all {cx : Cxi} {vs : List Nat} {i : Nat} {elt : CE} {xs : List PV} {ρ : Env} {S : Store} {P : PV → Store → Prop} {E E' : Exn → Store → Prop} (f : PV → Bool) (J : ItV) (hJ : ∀ i S', Grow S S' → J.next i S' = some xs[i]?) (hi : i < (wipe ρ vs).length) (hF : xs.length < cx.T.F) (hz : xs.length < nsz)
    (hb : ∀ x S', x ∈ xs → Grow S S' → Wq (evalE cx elt ((wipe ρ vs).set i (some x)) S') (fun y S2 => Grow S' S2 ∧ y = .bl (f x)) NoX)
    (hP : ∀ S', Grow S S' → P (.bl (xs.all f)) S') : Lcw cx vs (.name i) (.con (.bl true)) elt J ρ S (fun a S => Wq (bfun .all [a] S) P E) E' := by
  refine lc_name (fun x => .bl (f x)) J hJ hi hF hz hb fun S' g => ?_
  rw [f_all at_push, Wq_ok]
  exact hP _ (g.trans (Grow.push _ _))
theorem lc_any {cx : Cxi} {vs : List Nat} {i : Nat} {elt : CE} {xs : List PV} {ρ : Env} {S : Store} {P : PV → Store → Prop} {E E' : Exn → Store → Prop} (f : PV → Bool) (J : ItV) (hJ : ∀ i S', Grow S S' → J.next i S' = some xs[i]?) (hi : i < (wipe ρ vs).length) (hF : xs.length < cx.T.F) (hz : xs.length < nsz)
    (hb : ∀ x S', x ∈ xs → Grow S S' → Wq (evalE cx elt ((wipe ρ vs).set i (some x)) S') (fun y S2 => Grow S' S2 ∧ y = .bl (f x)) NoX)
    (hP : ∀ S', Grow S S' → P (.bl (xs.any f)) S') : Lcw cx vs (.name i) (.con (.bl true)) elt J ρ S (fun a S => Wq (bfun .any [a] S) P E) E' := by
  refine lc_name (fun x => .bl (f x)) J hJ hi hF hz hb fun S' g => ?_
  rw [f_any at_push, Wq_ok]
  exact hP _ (g.trans (Grow.push _ _))
theorem nx_seq {S : Store} {xs : List PV} (i : Nat) (S' : Store) (_ : Grow S S') : (ItV.seq xs).next i S' = some xs[i]? := rfl
theorem nx_str {S : Store} {x : Sy} (i : Nat) (S' : Store) (_ : Grow S S') : (ItV.str x).next i S' = some (x.map fun c => PV.str [c])[i]? := by simp [ItV.next]
theorem nx_rng {S : Store} {n : Nat} (i : Nat) (S' : Store) (_ : Grow S S') : (ItV.rng 0 n).next i S' = some (List.map (fun j : Nat => PV.int (Int.ofNat j)) (List.range n))[i]? := by
  by_cases h : i < n <;> simp [ItV.next, h]
theorem g_S {S : Store} {x : Sy} {i : Int} (h : x.length ≤ nsz) : getIx (.str x) (.int i) S = (atI x i).map fun c => .str [c] := if_pos h
end L3
/-! L3Sym: the interpreter's run step by step, the rest kept shut. -/
namespace L3
variable {cx : Cxi} {ρ : Env} {S : Store} {P : PV → Store → Prop} {E : Exn → Store → Prop} {K : Fl → Store → Prop} {EX : Exn → Env → Store → Prop}
/-- a parting of the ways -/
inductive Pin {α : Sort u} (a : α) : Type where
  | mk
def Br (k : Bool) (A B : Prop) (_ : Pin A) (_ : Pin B) : Prop := if k then A else B
theorem Br_t {A B : Prop} {a : Pin A} {b : Pin B} : Br true A B a b = A := rfl
theorem Br_f {A B : Prop} {a : Pin A} {b : Pin B} : Br false A B a b = B := rfl
theorem Br_i {k : Bool} {A B : Prop} {a : Pin A} {b : Pin B} (h1 : k = true → A) (h2 : k = false → B) : Br k A B a b := by
  cases k with
  | true => exact h1 rfl
  | false => exact h2 rfl
theorem Br_n {k : Bool} {A B : Prop} {a : Pin A} {b : Pin B} : Br (!k) A B a b = Br k B A b a := by cases k <;> rfl
theorem Br_d {p : Prop} [Decidable p] {A B : Prop} {a : Pin A} {b : Pin B} (h1 : p → A) (h2 : ¬ p → B) : Br (decide p) A B a b := Br_i (fun h => h1 (of_decide_eq_true h)) (fun h => h2 (of_decide_eq_false h))
theorem Br_e {α : Type} [BEq α] [LawfulBEq α] {x y : α} {A B : Prop} {a : Pin A} {b : Pin B} (h1 : x = y → A) (h2 : x ≠ y → B) : Br (x == y) A B a b := Br_i (fun h => h1 (eq_of_beq h)) (fun h => h2 (ne_of_beq_false h))
/-- a test's answer -/
def Tq (x : PV) (S : Store) (Q : Bool → Prop) : Prop := ∃ k, truthy S x = some k ∧ Q k
def Cq (op : COp) (x y : PV) (S : Store) (Q : Bool → Prop) : Prop := ∃ k, cop op x y S = some k ∧ Q k
def Iq (x y : PV) (S : Store) (Q : PV → Prop) : Prop := ∃ v, getIx x y S = some v ∧ Q v
def Yq (x : PV) (t : Ty) (S : Store) (Q : Bool → Prop) : Prop := ∃ k, isTy S x t = some k ∧ Q k
def Gq (o : Option PV) (Q : PV → Prop) : Prop := ∃ v, o = some v ∧ Q v
theorem Gq_s {v : PV} {Q : PV → Prop} : Gq (some v) Q = Q v := by simp [Gq]
theorem Tq_some {x : PV} {k : Bool} {Q : Bool → Prop} (h : truthy S x = some k) : Tq x S Q = Q k := by simp [Tq, h]
theorem Cq_some {op : COp} {x y : PV} {k : Bool} {Q : Bool → Prop} (h : cop op x y S = some k) : Cq op x y S Q = Q k := by simp [Cq, h]
theorem Iq_some {x y v : PV} {Q : PV → Prop} (h : getIx x y S = some v) : Iq x y S Q = Q v := by simp [Iq, h]
theorem Yq_some {x : PV} {t : Ty} {k : Bool} {Q : Bool → Prop} (h : isTy S x t = some k) : Yq x t S Q = Q k := by simp [Yq, h]
theorem Yq_ok {s : Nat} {x : PV} {t : Ty} {Q : Bool → Prop} (h : okv s S x) : Yq x t S Q = Q (tyB x t) := Yq_some (isTy_ok h)
theorem Yq_non {t : Ty} {Q : Bool → Prop} : Yq .non t S Q = Q false := Yq_some rfl
theorem Yq_bl {b : Bool} {t : Ty} {Q : Bool → Prop} : Yq (.bl b) t S Q = Q (tyB (.bl b) t) := Yq_some (by cases t <;> rfl)
theorem Yq_int {b : Int} {t : Ty} {Q : Bool → Prop} : Yq (.int b) t S Q = Q (tyB (.int b) t) := Yq_some (by cases t <;> rfl)
theorem Yq_str {b : Sy} {t : Ty} {Q : Bool → Prop} : Yq (.str b) t S Q = Q (tyB (.str b) t) := Yq_some (by cases t <;> rfl)
theorem Yq_tup {b : List PV} {t : Ty} {Q : Bool → Prop} : Yq (.tup b) t S Q = Q (tyB (.tup b) t) := Yq_some (by cases t <;> rfl)
theorem Yq_rol {b : List PV} {t : Ty} {Q : Bool → Prop} : Yq (.rol b) t S Q = Q (tyB (.rol b) t) := Yq_some (by cases t <;> rfl)
theorem Tq_bl {k : Bool} {Q : Bool → Prop} : Tq (.bl k) S Q = Q k := Tq_some rfl
theorem Tq_int {k : Int} {Q : Bool → Prop} : Tq (.int k) S Q = Q (k != 0) := Tq_some rfl
theorem Tq_tup {k : List PV} {Q : Bool → Prop} : Tq (.tup k) S Q = Q (!k.isEmpty) := Tq_some rfl
theorem Tq_rol {k : List PV} {Q : Bool → Prop} : Tq (.rol k) S Q = Q (!k.isEmpty) := Tq_some rfl
theorem Tq_non {Q : Bool → Prop} : Tq .non S Q = Q false := Tq_some rfl

theorem Cq_eqi {a b : Int} {Q : Bool → Prop} : Cq .eq (.int a) (.int b) S Q = Q (a == b) := Cq_some rfl
theorem Cq_nei {a b : Int} {Q : Bool → Prop} : Cq .ne (.int a) (.int b) S Q = Q (!(a == b)) := Cq_some rfl
theorem Cq_eqs {a b : Sy} {Q : Bool → Prop} : Cq .eq (.str a) (.str b) S Q = Q (a == b) := Cq_some rfl
theorem Cq_nes {a b : Sy} {Q : Bool → Prop} : Cq .ne (.str a) (.str b) S Q = Q (!(a == b)) := Cq_some rfl
theorem Cq_eqb {a b : Bool} {Q : Bool → Prop} : Cq .eq (.bl a) (.bl b) S Q = Q (a == b) := Cq_some rfl
theorem Cq_neb {a b : Bool} {Q : Bool → Prop} : Cq .ne (.bl a) (.bl b) S Q = Q (!(a == b)) := Cq_some rfl
theorem Cq_lti {a b : Int} {Q : Bool → Prop} : Cq .lt (.int a) (.int b) S Q = Q (decide (a < b)) := Cq_some rfl
theorem Cq_lei {a b : Int} {Q : Bool → Prop} : Cq .le (.int a) (.int b) S Q = Q (decide (a ≤ b)) := Cq_some rfl
theorem Cq_gti {a b : Int} {Q : Bool → Prop} : Cq .gt (.int a) (.int b) S Q = Q (decide (b < a)) := Cq_some rfl
theorem Cq_gei {a b : Int} {Q : Bool → Prop} : Cq .ge (.int a) (.int b) S Q = Q (decide (b ≤ a)) := Cq_some rfl
theorem Cq_isb {a b : Bool} {Q : Bool → Prop} : Cq .is (.bl a) (.bl b) S Q = Q (decide (a = b)) := Cq_some rfl
theorem Cq_isnb {a b : Bool} {Q : Bool → Prop} : Cq .isn (.bl a) (.bl b) S Q = Q (!decide (a = b)) := Cq_some rfl
theorem Cq_lts {a b : Sy} {Q : Bool → Prop} : Cq .lt (.str a) (.str b) S Q = Q (ltSy a b) := Cq_some rfl
theorem Cq_inn1 {c : Nat} {b : Sy} {Q : Bool → Prop} : Cq .inn (.str [c]) (.str b) S Q = Q (b.elem c) := Cq_some rfl
theorem Cq_nin1 {c : Nat} {b : Sy} {Q : Bool → Prop} : Cq .nin (.str [c]) (.str b) S Q = Q (!b.elem c) := Cq_some rfl
theorem Cq_isnn {x : PV} {Q : Bool → Prop} : Cq .isn x .non S Q = Q (match x with | .non => false | _ => true) := Cq_some (by cases x <;> rfl)
theorem Cq_isN {x : PV} {Q : Bool → Prop} : Cq .is x .non S Q = Q (match x with | .non => true | _ => false) := Cq_some (by cases x <;> rfl)
theorem Iq_T {xs : List PV} {i : Int} {Q : PV → Prop} : Iq (.tup xs) (.int i) S Q = Gq (atI xs i) Q := rfl
theorem Iq_C {xs : List PV} {i : Int} {Q : PV → Prop} : Iq (.rol xs) (.int i) S Q = Gq (atI xs i) Q := rfl
theorem Iq_S {x : Sy} {i : Int} {Q : PV → Prop} (h : x.length ≤ nsz) : Iq (.str x) (.int i) S Q = Gq ((atI x i).map fun c => .str [c]) Q := by simp only [Iq, Gq, g_S h]
theorem Iq_L {p : Nat} {xs : List PV} {i : Int} {Q : PV → Prop} (h : S[p]? = some (.lst xs)) : Iq (.ref p) (.int i) S Q = Gq (atI xs i) Q := by simp only [Iq, Gq, g_L h]
/-! ### expressions -/
theorem e_con {v : PV} : Wq (evalE cx (.con v) ρ S) P E = P v S := rfl
theorem e_glo {k : Nat} : Wq (evalE cx (.glo k) ρ S) P E = Gq cx.T.glob[k]? (fun v => P v S) := Wq_ofO
theorem e_tup {es : CEs} : Wq (evalE cx (.tup es) ρ S) P E = Wq (evalEs cx es ρ S) (fun xs S => xs.length ≤ nsz ∧ P (.tup xs) S) E := by
  simp only [evalE, Wq_bind, Wq_ite, Wq_ok, Wq_stuck]; congr 1; funext xs S; simp
theorem e_lst {es : CEs} : Wq (evalE cx (.lst es) ρ S) P E = Wq (evalEs cx es ρ S) (fun xs S => xs.length ≤ nsz ∧ P (.ref S.length) (S ++ [.lst xs])) E := by
  simp only [evalE, Wq_bind, Wq_ite, Wq_ok, Wq_stuck]; congr 1; funext xs S; simp
theorem e_bin {op : BOp} {a b : CE} : Wq (evalE cx (.bin op a b) ρ S) P E = Wq (evalE cx a ρ S) (fun x S => Wq (evalE cx b ρ S) (fun y S => Wq (bop op x y S) P E) E) E := by simp only [evalE, Wq_bind]
theorem e_neg {a : CE} : Wq (evalE cx (.neg a) ρ S) P E = Wq (evalE cx a ρ S) (fun x S => ∃ i, x = .int i ∧ P (.int (-i)) S) E := by
  simp only [evalE, Wq_bind]; congr 1; funext x S; cases x <;> simp [Wq_ok, Wq_stuck]
theorem e_negi {i : Int} : Wq (evalE cx (.neg (.con (.int i))) ρ S) P E = P (.int (-i)) S := rfl
/-- an expression as a test -/
def Tt (cx : Cxi) (e : CE) (ρ : Env) (S : Store) (Q : Bool → Store → Prop) (E : Exn → Store → Prop) : Prop := Wq (evalE cx e ρ S) (fun x S => Tq x S fun k => Q k S) E
theorem e_nt {a : CE} : Wq (evalE cx (.nt a) ρ S) P E = Tt cx a ρ S (fun k S => P (.bl (!k)) S) E := by simp only [evalE, Wq_bind, Wq_ofO, Wq_ok, Tq, Tt]
theorem e_and {a b : CE} : Wq (evalE cx (.and a b) ρ S) P E = Wq (evalE cx a ρ S) (fun x S => Tq x S fun k => Br k (Wq (evalE cx b ρ S) P E) (P x S) .mk .mk) E := by simp only [evalE, Wq_bind, Wq_ofO, Wq_ok, Tq, Br, Wq_ite]
theorem e_or {a b : CE} : Wq (evalE cx (.or a b) ρ S) P E = Wq (evalE cx a ρ S) (fun x S => Tq x S fun k => Br k (P x S) (Wq (evalE cx b ρ S) P E) .mk .mk) E := by simp only [evalE, Wq_bind, Wq_ofO, Wq_ok, Tq, Br, Wq_ite]
theorem e_ife {c a b : CE} : Wq (evalE cx (.ife c a b) ρ S) P E = Wq (evalE cx c ρ S) (fun x S => Tq x S fun k => Br k (Wq (evalE cx a ρ S) P E) (Wq (evalE cx b ρ S) P E) .mk .mk) E := by simp only [evalE, Wq_bind, Wq_ofO, Wq_ok, Tq, Br, Wq_ite]
theorem e_cmp {op : COp} {a b : CE} : Wq (evalE cx (.cmp op a b) ρ S) P E = Wq (evalE cx a ρ S) (fun x S => Wq (evalE cx b ρ S) (fun y S => Cq op x y S fun k => P (.bl k) S) E) E := by simp only [evalE, Wq_bind, Wq_ofO, Wq_ok, Cq]
theorem e_chn {o1 o2 : COp} {a b c : CE} : Wq (evalE cx (.chn o1 o2 a b c) ρ S) P E = Wq (evalE cx a ρ S) (fun x S => Wq (evalE cx b ρ S) (fun y S => Cq o1 x y S fun k => Br k (Wq (evalE cx c ρ S) (fun z S => Cq o2 y z S fun k => P (.bl k) S) E) (P (.bl false) S) .mk .mk) E) E := by simp only [evalE, Wq_bind, Wq_ofO, Wq_ok, Cq, Br, Wq_ite]
theorem e_idx {a b : CE} : Wq (evalE cx (.idx a b) ρ S) P E = Wq (evalE cx a ρ S) (fun x S => Wq (evalE cx b ρ S) (fun y S => Iq x y S fun v => P v S) E) E := by simp only [evalE, Wq_bind, Wq_ofO, Iq]
theorem e_slc {a : CE} {l h : CO} : Wq (evalE cx (.slc a l h) ρ S) P E = Wq (evalE cx a ρ S) (fun x S => Wq (evalO cx l ρ S) (fun l S => Wq (evalO cx h ρ S) (fun h S => Wq (getSl x l h S) P E) E) E) E := by simp only [evalE, Wq_bind]
theorem e_fld {a : CE} {f : Sy} : Wq (evalE cx (.fld a f) ρ S) P E = Wq (evalE cx a ρ S) (fun x S => Gq (getFld cx.T x f S) fun v => P v S) E := by simp only [evalE, Wq_bind, Wq_ofO, Gq]
theorem e_cal {f : Nat} {es : CEs} : Wq (evalE cx (.cal f es) ρ S) P E = Wq (evalEs cx es ρ S) (fun xs S => Wq (cx.call f xs S) P E) E := by simp only [evalE, Wq_bind]
theorem e_mth {a : CE} {m : Sy} {es : CEs} : Wq (evalE cx (.mth a m es) ρ S) P E = Wq (evalE cx a ρ S) (fun x S => Wq (evalEs cx es ρ S) (fun xs S => Wq (callM cx x m xs S) P E) E) E := by simp only [evalE, Wq_bind]
theorem e_bf {b : BF} {es : CEs} : Wq (evalE cx (.bf b es) ρ S) P E = Wq (evalEs cx es ρ S) (fun xs S => Wq (bfun b xs S) P E) E := by simp only [evalE, Wq_bind]
theorem e_bf1 {b : BF} {a : CE} : Wq (evalE cx (.bf b (.cons a .nil)) ρ S) P E = Wq (evalE cx a ρ S) (fun x S => Wq (bfun b [x] S) P E) E := by simp only [evalE, evalEs, Wq_bind, Wq_ok]
theorem e_isi {a : CE} {t : Ty} : Wq (evalE cx (.isi a t) ρ S) P E = Wq (evalE cx a ρ S) (fun x S => Yq x t S fun k => P (.bl k) S) E := by simp only [evalE, Wq_bind, Wq_ofO, Wq_ok, Yq]
theorem es_nil {P : List PV → Store → Prop} : Wq (evalEs cx .nil ρ S) P E = P [] S := rfl
theorem es_cons {P : List PV → Store → Prop} {e : CE} {es : CEs} : Wq (evalEs cx (.cons e es) ρ S) P E = Wq (evalE cx e ρ S) (fun x S => Wq (evalEs cx es ρ S) (fun xs S => P (x :: xs) S) E) E := by simp only [evalEs, Wq_bind, Wq_ok]
theorem eo_no {P : Option Int → Store → Prop} : Wq (evalO cx .no ρ S) P E = P none S := rfl
theorem eo_ex {P : Option Int → Store → Prop} {e : CE} : Wq (evalO cx (.ex e) ρ S) P E = Wq (evalE cx e ρ S) (fun x S => ∃ i, x = .int i ∧ P (some i) S) E := by
  simp only [evalO, Wq_bind]; congr 1; funext x S; cases x <;> simp [Wq_ok, Wq_stuck]
theorem i_seq {P : ItV → Store → Prop} {e : CE} : Wq (iterE cx (.seq e) ρ S) P E = Wq (evalE cx e ρ S) (fun x S => Wq (seqIt x S) P E) E := by simp only [iterE, Wq_bind]
theorem i_rng {P : ItV → Store → Prop} {e : CE} : Wq (iterE cx (.rng e) ρ S) P E = Wq (evalE cx e ρ S) (fun x S => ∃ j, x = .int j ∧ (-W62 ≤ j ∧ j < W62) ∧ P (.rng 0 j.toNat) S) E := by
  simp only [iterE, Wq_bind]; congr 1; funext x S; cases x <;> simp [Wq_ok, Wq_stuck, Wq_ite]
theorem i_rng2 {P : ItV → Store → Prop} {a b : CE} : Wq (iterE cx (.rng2 a b) ρ S) P E = Wq (evalE cx a ρ S) (fun x S => Wq (evalE cx b ρ S) (fun y S => ∃ i j, x = .int i ∧ y = .int j ∧ (-W62 ≤ i ∧ i < W62 ∧ -W62 ≤ j ∧ j < W62) ∧ P (.rng i (j - i).toNat) S) E) E := by
  simp only [iterE, Wq_bind]; congr 1; funext x S; congr 1; funext y S; cases x <;> cases y <;> simp [Wq_ok, Wq_stuck, Wq_ite]
theorem q_tup {P : ItV → Store → Prop} {xs : List PV} : Wq (seqIt (.tup xs) S) P E = P (.seq xs) S := rfl
theorem q_rol {P : ItV → Store → Prop} {xs : List PV} : Wq (seqIt (.rol xs) S) P E = P (.seq xs) S := rfl
theorem q_str {P : ItV → Store → Prop} {xs : Sy} : Wq (seqIt (.str xs) S) P E = P (.str xs) S := rfl
theorem q_L {P : ItV → Store → Prop} {p : Nat} {xs : List PV} (h : S[p]? = some (.lst xs)) : Wq (seqIt (.ref p) S) P E = P (.ref p) S := by simp only [seqIt, h, Wq_ok]
theorem o_addi {i j : Int} : Wq (bop .add (.int i) (.int j) S) P E = P (.int (i + j)) S := rfl
theorem o_subi {i j : Int} : Wq (bop .sub (.int i) (.int j) S) P E = P (.int (i - j)) S := rfl
theorem o_p9 : Wq (bop .pow (.int 10) (.int 9) S) P E = P (.int 1000000000) S := rfl
theorem o_addt {a b : List PV} : Wq (bop .add (.tup a) (.tup b) S) P E = (a.length + b.length ≤ nsz ∧ P (.tup (a ++ b)) S) := by simp only [bop, Wq_ite, Wq_ok, Wq_stuck]; simp
theorem o_adds {a b : Sy} : Wq (bop .add (.str a) (.str b) S) P E = (a.length + b.length ≤ nsz ∧ P (.str (a ++ b)) S) := by simp only [bop, Wq_ite, Wq_ok, Wq_stuck]; simp
theorem o_addl {p q : Nat} {a b : List PV} (h : S[p]? = some (.lst a)) (h2 : S[q]? = some (.lst b)) : Wq (bop .add (.ref p) (.ref q) S) P E = (a.length + b.length ≤ nsz ∧ P (.ref S.length) (S ++ [.lst (a ++ b)])) := by simp only [bop, h, h2, Wq_ite, Wq_ok, Wq_stuck]; simp
theorem o_mult {a : List PV} {k : Int} : Wq (bop .mul (.tup a) (.int k) S) P E = ((a ≠ [] ∧ 2 ≤ k ∧ k ≤ 1000 ∧ a.length ≤ 1000) ∧ P (.tup (List.replicate k.toNat a).flatten) S) := by simp only [bop, Wq_ite, Wq_ok, Wq_stuck]; simp [-Int.reduceLE]
theorem o_slct {xs : List PV} {l h : Option Int} : Wq (getSl (.tup xs) l h S) P E = P (.tup (cutL xs l h)) S := rfl
theorem o_slcl {p : Nat} {xs : List PV} {l h : Option Int} (hp : S[p]? = some (.lst xs)) : Wq (getSl (.ref p) l h S) P E = P (.ref S.length) (S ++ [.lst (cutL xs l h)]) := by simp only [getSl, hp, Wq_ok]
theorem u_lenT {xs : List PV} : Wq (bfun .len [.tup xs] S) P E = P (.int xs.length) S := rfl
theorem u_lenC {xs : List PV} : Wq (bfun .len [.rol xs] S) P E = P (.int xs.length) S := rfl
theorem u_lenS {x : Sy} (h : x.length ≤ nsz) : Wq (bfun .len [.str x] S) P E = P (.int x.length) S := by rw [f_lenS h, Wq_ok]
theorem u_lenL {p : Nat} {xs : List PV} (h : S[p]? = some (.lst xs)) : Wq (bfun .len [.ref p] S) P E = P (.int xs.length) S := by rw [f_lenL h, Wq_ok]
theorem u_int {i : Int} : Wq (bfun .int [.int i] S) P E = P (.int i) S := rfl
theorem u_abs {i : Int} : Wq (bfun .abs [.int i] S) P E = P (.int (if i < 0 then -i else i)) S := rfl
theorem u_max {i j : Int} : Wq (bfun .max [.int i, .int j] S) P E = P (.int (if j > i then j else i)) S := rfl
theorem u_min {i j : Int} : Wq (bfun .min [.int i, .int j] S) P E = P (.int (if j < i then j else i)) S := rfl
theorem u_tupT {xs : List PV} : Wq (bfun .tuple [.tup xs] S) P E = P (.tup xs) S := rfl
theorem u_tupL {p : Nat} {xs : List PV} (h : S[p]? = some (.lst xs)) : Wq (bfun .tuple [.ref p] S) P E = P (.tup xs) S := by simp only [bfun, h, Wq_ok]
theorem u_lstT {xs : List PV} : Wq (bfun .list [.tup xs] S) P E = P (.ref S.length) (S ++ [.lst xs]) := rfl
theorem u_lstC {xs : List PV} : Wq (bfun .list [.rol xs] S) P E = P (.ref S.length) (S ++ [.lst xs]) := rfl
theorem u_lstL {p : Nat} {xs : List PV} (h : S[p]? = some (.lst xs)) : Wq (bfun .list [.ref p] S) P E = P (.ref S.length) (S ++ [.lst xs]) := by simp only [bfun, h, Wq_ok]
theorem T_idx {a b : CE} {Q : Bool → Store → Prop} : Tt cx (.idx a b) ρ S Q E = Wq (evalE cx (.idx a b) ρ S) (fun x S => Tq x S fun k => Q k S) E := rfl
theorem T_cal {f : Nat} {es : CEs} {Q : Bool → Store → Prop} : Tt cx (.cal f es) ρ S Q E = Wq (evalE cx (.cal f es) ρ S) (fun x S => Tq x S fun k => Q k S) E := rfl
theorem T_bf {b : BF} {es : CEs} {Q : Bool → Store → Prop} : Tt cx (.bf b es) ρ S Q E = Wq (evalE cx (.bf b es) ρ S) (fun x S => Tq x S fun k => Q k S) E := rfl
theorem T_bin {o : BOp} {a b : CE} {Q : Bool → Store → Prop} : Tt cx (.bin o a b) ρ S Q E = Wq (evalE cx (.bin o a b) ρ S) (fun x S => Tq x S fun k => Q k S) E := rfl
theorem T_tup {es : CEs} {Q : Bool → Store → Prop} : Tt cx (.tup es) ρ S Q E = Wq (evalE cx (.tup es) ρ S) (fun x S => Tq x S fun k => Q k S) E := rfl
theorem T_fld {a : CE} {f : Sy} {Q : Bool → Store → Prop} : Tt cx (.fld a f) ρ S Q E = Wq (evalE cx (.fld a f) ρ S) (fun x S => Tq x S fun k => Q k S) E := rfl
theorem T_mth {a : CE} {m : Sy} {es : CEs} {Q : Bool → Store → Prop} : Tt cx (.mth a m es) ρ S Q E = Wq (evalE cx (.mth a m es) ρ S) (fun x S => Tq x S fun k => Q k S) E := rfl
theorem T_ife {a b c : CE} {Q : Bool → Store → Prop} : Tt cx (.ife a b c) ρ S Q E = Wq (evalE cx (.ife a b c) ρ S) (fun x S => Tq x S fun k => Q k S) E := rfl
theorem T_var {i : Nat} {Q : Bool → Store → Prop} : Tt cx (.var i) ρ S Q E = Wq (evalE cx (.var i) ρ S) (fun x S => Tq x S fun k => Q k S) E := rfl
theorem T_glo {i : Nat} {Q : Bool → Store → Prop} : Tt cx (.glo i) ρ S Q E = Wq (evalE cx (.glo i) ρ S) (fun x S => Tq x S fun k => Q k S) E := rfl
theorem T_con {v : PV} {Q : Bool → Store → Prop} : Tt cx (.con v) ρ S Q E = Wq (evalE cx (.con v) ρ S) (fun x S => Tq x S fun k => Q k S) E := rfl
theorem T_cmp {op : COp} {a b : CE} {Q : Bool → Store → Prop} : Tt cx (.cmp op a b) ρ S Q E = Wq (evalE cx a ρ S) (fun x S => Wq (evalE cx b ρ S) (fun y S => Cq op x y S fun k => Q k S) E) E := by simp only [Tt, e_cmp, Tq_bl]
theorem T_chn {o1 o2 : COp} {a b c : CE} {Q : Bool → Store → Prop} : Tt cx (.chn o1 o2 a b c) ρ S Q E = Wq (evalE cx a ρ S) (fun x S => Wq (evalE cx b ρ S) (fun y S => Cq o1 x y S fun k => Br k (Wq (evalE cx c ρ S) (fun z S => Cq o2 y z S fun k => Q k S) E) (Q false S) .mk .mk) E) E := by simp only [Tt, e_chn, Br, Tq_bl]
theorem T_isi {a : CE} {t : Ty} {Q : Bool → Store → Prop} : Tt cx (.isi a t) ρ S Q E = Wq (evalE cx a ρ S) (fun x S => Yq x t S fun k => Q k S) E := by simp only [Tt, e_isi, Tq_bl]
theorem T_nt {a : CE} {Q : Bool → Store → Prop} : Tt cx (.nt a) ρ S Q E = Tt cx a ρ S (fun k S => Q (!k) S) E := by simp only [Tt, evalE, Wq_bind, Wq_ofO, Wq_ok, Tq_bl, Tq]; simp [tr_bl]
theorem T_and {a b : CE} {Q : Bool → Store → Prop} : Tt cx (.and a b) ρ S Q E = Tt cx a ρ S (fun k S => Br k (Tt cx b ρ S Q E) (Q false S) .mk .mk) E := by
  have := Wt_and (cx := cx) (a := a) (b := b) (ρ := ρ) (S := S) (Q := Q) (E := E)
  simp only [Wt] at this
  simpa only [Tt, Tq, Br, Wt] using this
theorem T_or {a b : CE} {Q : Bool → Store → Prop} : Tt cx (.or a b) ρ S Q E = Tt cx a ρ S (fun k S => Br k (Q true S) (Tt cx b ρ S Q E) .mk .mk) E := by
  have := Wt_or (cx := cx) (a := a) (b := b) (ρ := ρ) (S := S) (Q := Q) (E := E)
  simp only [Wt] at this
  simpa only [Tt, Tq, Br, Wt] using this
/-! ### statements -/
theorem y_cons {s : CS} {ss : CSs} : Ws (execB cx (.cons s ss) ρ S) K EX = Ws (execS cx s ρ S) (nxt cx ss K EX) EX := W_cons
theorem y_if {c : CE} {a b : CSs} : Ws (execS cx (.ite c a b) ρ S) K EX = Tt cx c ρ S (fun k S => Br k (Ws (execB cx a ρ S) K EX) (Ws (execB cx b ρ S) K EX) .mk .mk) (fun x S => EX x ρ S) := by
  simp only [W_if, Wt, Tq, Br, Tt]
theorem y_aug {i : Nat} {e : CE} {op : BOp} : Ws (execS cx (.aug i op e) ρ S) K EX = Wq (getV ρ i S) (fun x S => Wq (evalE cx e ρ S) (fun y S => ∃ a b, x = .int a ∧ y = .int b ∧ (op = .add ∨ op = .sub) ∧ Wq (bop op x y S) (fun z S => K (.nx (ρ.set i (some z))) S) (fun x S => EX x ρ S)) (fun x S => EX x ρ S)) (fun x S => EX x ρ S) := by
  simp only [execS, Ws_at]
  congr 1; funext x S; congr 1; funext y S
  cases x <;> cases y <;> cases op <;> simp [Ws_stuck, Ws_at, Ws_ok]

theorem v_0 {v : PV} {r : Env} : Wq (evalE cx (.var 0) (some v :: r) S) P E = P v S := rfl
theorem n_0 {w : Option PV} {r : Env} {e : CE} : Ws (execS cx (.asg (.name 0) e) (w :: r) S) K EX = Wq (evalE cx e (w :: r) S) (fun v S => K (.nx (some v :: r)) S) (fun x S => EX x (w :: r) S) := by
  rw [W_asgn]; congr 1; funext v S; simp [List.set]
theorem g_0 {v : PV} {r : Env} : Wq (getV (some v :: r) 0 S) P E = P v S := rfl
theorem t_0 {w : Option PV} {v : PV} {r : Env} {P : Env → Store → Prop} : Wq (assignE cx (.name 0) v (w :: r) S) P E = P (some v :: r) S := by
  rw [assignE, if_pos (by simp only [List.length_cons]; omega)]; rfl
theorem v_1 {a0 : Option PV} {v : PV} {r : Env} : Wq (evalE cx (.var 1) (a0 :: some v :: r) S) P E = P v S := rfl
theorem n_1 {a0 : Option PV} {w : Option PV} {r : Env} {e : CE} : Ws (execS cx (.asg (.name 1) e) (a0 :: w :: r) S) K EX = Wq (evalE cx e (a0 :: w :: r) S) (fun v S => K (.nx (a0 :: some v :: r)) S) (fun x S => EX x (a0 :: w :: r) S) := by
  rw [W_asgn]; congr 1; funext v S; simp [List.set]
theorem g_1 {a0 : Option PV} {v : PV} {r : Env} : Wq (getV (a0 :: some v :: r) 1 S) P E = P v S := rfl
theorem t_1 {a0 : Option PV} {w : Option PV} {v : PV} {r : Env} {P : Env → Store → Prop} : Wq (assignE cx (.name 1) v (a0 :: w :: r) S) P E = P (a0 :: some v :: r) S := by
  rw [assignE, if_pos (by simp only [List.length_cons]; omega)]; rfl
theorem v_2 {a0 a1 : Option PV} {v : PV} {r : Env} : Wq (evalE cx (.var 2) (a0 :: a1 :: some v :: r) S) P E = P v S := rfl
theorem n_2 {a0 a1 : Option PV} {w : Option PV} {r : Env} {e : CE} : Ws (execS cx (.asg (.name 2) e) (a0 :: a1 :: w :: r) S) K EX = Wq (evalE cx e (a0 :: a1 :: w :: r) S) (fun v S => K (.nx (a0 :: a1 :: some v :: r)) S) (fun x S => EX x (a0 :: a1 :: w :: r) S) := by
  rw [W_asgn]; congr 1; funext v S; simp [List.set]
theorem g_2 {a0 a1 : Option PV} {v : PV} {r : Env} : Wq (getV (a0 :: a1 :: some v :: r) 2 S) P E = P v S := rfl
theorem t_2 {a0 a1 : Option PV} {w : Option PV} {v : PV} {r : Env} {P : Env → Store → Prop} : Wq (assignE cx (.name 2) v (a0 :: a1 :: w :: r) S) P E = P (a0 :: a1 :: some v :: r) S := by
  rw [assignE, if_pos (by simp only [List.length_cons]; omega)]; rfl
theorem v_3 {a0 a1 a2 : Option PV} {v : PV} {r : Env} : Wq (evalE cx (.var 3) (a0 :: a1 :: a2 :: some v :: r) S) P E = P v S := rfl
theorem n_3 {a0 a1 a2 : Option PV} {w : Option PV} {r : Env} {e : CE} : Ws (execS cx (.asg (.name 3) e) (a0 :: a1 :: a2 :: w :: r) S) K EX = Wq (evalE cx e (a0 :: a1 :: a2 :: w :: r) S) (fun v S => K (.nx (a0 :: a1 :: a2 :: some v :: r)) S) (fun x S => EX x (a0 :: a1 :: a2 :: w :: r) S) := by
  rw [W_asgn]; congr 1; funext v S; simp [List.set]
theorem g_3 {a0 a1 a2 : Option PV} {v : PV} {r : Env} : Wq (getV (a0 :: a1 :: a2 :: some v :: r) 3 S) P E = P v S := rfl
theorem t_3 {a0 a1 a2 : Option PV} {w : Option PV} {v : PV} {r : Env} {P : Env → Store → Prop} : Wq (assignE cx (.name 3) v (a0 :: a1 :: a2 :: w :: r) S) P E = P (a0 :: a1 :: a2 :: some v :: r) S := by
  rw [assignE, if_pos (by simp only [List.length_cons]; omega)]; rfl
theorem v_4 {a0 a1 a2 a3 : Option PV} {v : PV} {r : Env} : Wq (evalE cx (.var 4) (a0 :: a1 :: a2 :: a3 :: some v :: r) S) P E = P v S := rfl
theorem n_4 {a0 a1 a2 a3 : Option PV} {w : Option PV} {r : Env} {e : CE} : Ws (execS cx (.asg (.name 4) e) (a0 :: a1 :: a2 :: a3 :: w :: r) S) K EX = Wq (evalE cx e (a0 :: a1 :: a2 :: a3 :: w :: r) S) (fun v S => K (.nx (a0 :: a1 :: a2 :: a3 :: some v :: r)) S) (fun x S => EX x (a0 :: a1 :: a2 :: a3 :: w :: r) S) := by
  rw [W_asgn]; congr 1; funext v S; simp [List.set]
theorem g_4 {a0 a1 a2 a3 : Option PV} {v : PV} {r : Env} : Wq (getV (a0 :: a1 :: a2 :: a3 :: some v :: r) 4 S) P E = P v S := rfl
theorem t_4 {a0 a1 a2 a3 : Option PV} {w : Option PV} {v : PV} {r : Env} {P : Env → Store → Prop} : Wq (assignE cx (.name 4) v (a0 :: a1 :: a2 :: a3 :: w :: r) S) P E = P (a0 :: a1 :: a2 :: a3 :: some v :: r) S := by
  rw [assignE, if_pos (by simp only [List.length_cons]; omega)]; rfl
theorem v_5 {a0 a1 a2 a3 a4 : Option PV} {v : PV} {r : Env} : Wq (evalE cx (.var 5) (a0 :: a1 :: a2 :: a3 :: a4 :: some v :: r) S) P E = P v S := rfl
theorem n_5 {a0 a1 a2 a3 a4 : Option PV} {w : Option PV} {r : Env} {e : CE} : Ws (execS cx (.asg (.name 5) e) (a0 :: a1 :: a2 :: a3 :: a4 :: w :: r) S) K EX = Wq (evalE cx e (a0 :: a1 :: a2 :: a3 :: a4 :: w :: r) S) (fun v S => K (.nx (a0 :: a1 :: a2 :: a3 :: a4 :: some v :: r)) S) (fun x S => EX x (a0 :: a1 :: a2 :: a3 :: a4 :: w :: r) S) := by
  rw [W_asgn]; congr 1; funext v S; simp [List.set]
theorem g_5 {a0 a1 a2 a3 a4 : Option PV} {v : PV} {r : Env} : Wq (getV (a0 :: a1 :: a2 :: a3 :: a4 :: some v :: r) 5 S) P E = P v S := rfl
theorem t_5 {a0 a1 a2 a3 a4 : Option PV} {w : Option PV} {v : PV} {r : Env} {P : Env → Store → Prop} : Wq (assignE cx (.name 5) v (a0 :: a1 :: a2 :: a3 :: a4 :: w :: r) S) P E = P (a0 :: a1 :: a2 :: a3 :: a4 :: some v :: r) S := by
  rw [assignE, if_pos (by simp only [List.length_cons]; omega)]; rfl
theorem v_6 {a0 a1 a2 a3 a4 a5 : Option PV} {v : PV} {r : Env} : Wq (evalE cx (.var 6) (a0 :: a1 :: a2 :: a3 :: a4 :: a5 :: some v :: r) S) P E = P v S := rfl
theorem n_6 {a0 a1 a2 a3 a4 a5 : Option PV} {w : Option PV} {r : Env} {e : CE} : Ws (execS cx (.asg (.name 6) e) (a0 :: a1 :: a2 :: a3 :: a4 :: a5 :: w :: r) S) K EX = Wq (evalE cx e (a0 :: a1 :: a2 :: a3 :: a4 :: a5 :: w :: r) S) (fun v S => K (.nx (a0 :: a1 :: a2 :: a3 :: a4 :: a5 :: some v :: r)) S) (fun x S => EX x (a0 :: a1 :: a2 :: a3 :: a4 :: a5 :: w :: r) S) := by
  rw [W_asgn]; congr 1; funext v S; simp [List.set]
theorem g_6 {a0 a1 a2 a3 a4 a5 : Option PV} {v : PV} {r : Env} : Wq (getV (a0 :: a1 :: a2 :: a3 :: a4 :: a5 :: some v :: r) 6 S) P E = P v S := rfl
theorem t_6 {a0 a1 a2 a3 a4 a5 : Option PV} {w : Option PV} {v : PV} {r : Env} {P : Env → Store → Prop} : Wq (assignE cx (.name 6) v (a0 :: a1 :: a2 :: a3 :: a4 :: a5 :: w :: r) S) P E = P (a0 :: a1 :: a2 :: a3 :: a4 :: a5 :: some v :: r) S := by
  rw [assignE, if_pos (by simp only [List.length_cons]; omega)]; rfl
theorem v_7 {a0 a1 a2 a3 a4 a5 a6 : Option PV} {v : PV} {r : Env} : Wq (evalE cx (.var 7) (a0 :: a1 :: a2 :: a3 :: a4 :: a5 :: a6 :: some v :: r) S) P E = P v S := rfl
theorem n_7 {a0 a1 a2 a3 a4 a5 a6 : Option PV} {w : Option PV} {r : Env} {e : CE} : Ws (execS cx (.asg (.name 7) e) (a0 :: a1 :: a2 :: a3 :: a4 :: a5 :: a6 :: w :: r) S) K EX = Wq (evalE cx e (a0 :: a1 :: a2 :: a3 :: a4 :: a5 :: a6 :: w :: r) S) (fun v S => K (.nx (a0 :: a1 :: a2 :: a3 :: a4 :: a5 :: a6 :: some v :: r)) S) (fun x S => EX x (a0 :: a1 :: a2 :: a3 :: a4 :: a5 :: a6 :: w :: r) S) := by
  rw [W_asgn]; congr 1; funext v S; simp [List.set]
theorem g_7 {a0 a1 a2 a3 a4 a5 a6 : Option PV} {v : PV} {r : Env} : Wq (getV (a0 :: a1 :: a2 :: a3 :: a4 :: a5 :: a6 :: some v :: r) 7 S) P E = P v S := rfl
theorem t_7 {a0 a1 a2 a3 a4 a5 a6 : Option PV} {w : Option PV} {v : PV} {r : Env} {P : Env → Store → Prop} : Wq (assignE cx (.name 7) v (a0 :: a1 :: a2 :: a3 :: a4 :: a5 :: a6 :: w :: r) S) P E = P (a0 :: a1 :: a2 :: a3 :: a4 :: a5 :: a6 :: some v :: r) S := by
  rw [assignE, if_pos (by simp only [List.length_cons]; omega)]; rfl
theorem v_8 {a0 a1 a2 a3 a4 a5 a6 a7 : Option PV} {v : PV} {r : Env} : Wq (evalE cx (.var 8) (a0 :: a1 :: a2 :: a3 :: a4 :: a5 :: a6 :: a7 :: some v :: r) S) P E = P v S := rfl
theorem n_8 {a0 a1 a2 a3 a4 a5 a6 a7 : Option PV} {w : Option PV} {r : Env} {e : CE} : Ws (execS cx (.asg (.name 8) e) (a0 :: a1 :: a2 :: a3 :: a4 :: a5 :: a6 :: a7 :: w :: r) S) K EX = Wq (evalE cx e (a0 :: a1 :: a2 :: a3 :: a4 :: a5 :: a6 :: a7 :: w :: r) S) (fun v S => K (.nx (a0 :: a1 :: a2 :: a3 :: a4 :: a5 :: a6 :: a7 :: some v :: r)) S) (fun x S => EX x (a0 :: a1 :: a2 :: a3 :: a4 :: a5 :: a6 :: a7 :: w :: r) S) := by
  rw [W_asgn]; congr 1; funext v S; simp [List.set]
theorem g_8 {a0 a1 a2 a3 a4 a5 a6 a7 : Option PV} {v : PV} {r : Env} : Wq (getV (a0 :: a1 :: a2 :: a3 :: a4 :: a5 :: a6 :: a7 :: some v :: r) 8 S) P E = P v S := rfl
theorem t_8 {a0 a1 a2 a3 a4 a5 a6 a7 : Option PV} {w : Option PV} {v : PV} {r : Env} {P : Env → Store → Prop} : Wq (assignE cx (.name 8) v (a0 :: a1 :: a2 :: a3 :: a4 :: a5 :: a6 :: a7 :: w :: r) S) P E = P (a0 :: a1 :: a2 :: a3 :: a4 :: a5 :: a6 :: a7 :: some v :: r) S := by
  rw [assignE, if_pos (by simp only [List.length_cons]; omega)]; rfl
theorem v_9 {a0 a1 a2 a3 a4 a5 a6 a7 a8 : Option PV} {v : PV} {r : Env} : Wq (evalE cx (.var 9) (a0 :: a1 :: a2 :: a3 :: a4 :: a5 :: a6 :: a7 :: a8 :: some v :: r) S) P E = P v S := rfl
theorem n_9 {a0 a1 a2 a3 a4 a5 a6 a7 a8 : Option PV} {w : Option PV} {r : Env} {e : CE} : Ws (execS cx (.asg (.name 9) e) (a0 :: a1 :: a2 :: a3 :: a4 :: a5 :: a6 :: a7 :: a8 :: w :: r) S) K EX = Wq (evalE cx e (a0 :: a1 :: a2 :: a3 :: a4 :: a5 :: a6 :: a7 :: a8 :: w :: r) S) (fun v S => K (.nx (a0 :: a1 :: a2 :: a3 :: a4 :: a5 :: a6 :: a7 :: a8 :: some v :: r)) S) (fun x S => EX x (a0 :: a1 :: a2 :: a3 :: a4 :: a5 :: a6 :: a7 :: a8 :: w :: r) S) := by
  rw [W_asgn]; congr 1; funext v S; simp [List.set]
theorem g_9 {a0 a1 a2 a3 a4 a5 a6 a7 a8 : Option PV} {v : PV} {r : Env} : Wq (getV (a0 :: a1 :: a2 :: a3 :: a4 :: a5 :: a6 :: a7 :: a8 :: some v :: r) 9 S) P E = P v S := rfl
theorem t_9 {a0 a1 a2 a3 a4 a5 a6 a7 a8 : Option PV} {w : Option PV} {v : PV} {r : Env} {P : Env → Store → Prop} : Wq (assignE cx (.name 9) v (a0 :: a1 :: a2 :: a3 :: a4 :: a5 :: a6 :: a7 :: a8 :: w :: r) S) P E = P (a0 :: a1 :: a2 :: a3 :: a4 :: a5 :: a6 :: a7 :: a8 :: some v :: r) S := by
  rw [assignE, if_pos (by simp only [List.length_cons]; omega)]; rfl
theorem v_10 {a0 a1 a2 a3 a4 a5 a6 a7 a8 a9 : Option PV} {v : PV} {r : Env} : Wq (evalE cx (.var 10) (a0 :: a1 :: a2 :: a3 :: a4 :: a5 :: a6 :: a7 :: a8 :: a9 :: some v :: r) S) P E = P v S := rfl
theorem n_10 {a0 a1 a2 a3 a4 a5 a6 a7 a8 a9 : Option PV} {w : Option PV} {r : Env} {e : CE} : Ws (execS cx (.asg (.name 10) e) (a0 :: a1 :: a2 :: a3 :: a4 :: a5 :: a6 :: a7 :: a8 :: a9 :: w :: r) S) K EX = Wq (evalE cx e (a0 :: a1 :: a2 :: a3 :: a4 :: a5 :: a6 :: a7 :: a8 :: a9 :: w :: r) S) (fun v S => K (.nx (a0 :: a1 :: a2 :: a3 :: a4 :: a5 :: a6 :: a7 :: a8 :: a9 :: some v :: r)) S) (fun x S => EX x (a0 :: a1 :: a2 :: a3 :: a4 :: a5 :: a6 :: a7 :: a8 :: a9 :: w :: r) S) := by
  rw [W_asgn]; congr 1; funext v S; simp [List.set]
theorem g_10 {a0 a1 a2 a3 a4 a5 a6 a7 a8 a9 : Option PV} {v : PV} {r : Env} : Wq (getV (a0 :: a1 :: a2 :: a3 :: a4 :: a5 :: a6 :: a7 :: a8 :: a9 :: some v :: r) 10 S) P E = P v S := rfl
theorem t_10 {a0 a1 a2 a3 a4 a5 a6 a7 a8 a9 : Option PV} {w : Option PV} {v : PV} {r : Env} {P : Env → Store → Prop} : Wq (assignE cx (.name 10) v (a0 :: a1 :: a2 :: a3 :: a4 :: a5 :: a6 :: a7 :: a8 :: a9 :: w :: r) S) P E = P (a0 :: a1 :: a2 :: a3 :: a4 :: a5 :: a6 :: a7 :: a8 :: a9 :: some v :: r) S := by
  rw [assignE, if_pos (by simp only [List.length_cons]; omega)]; rfl
theorem v_11 {a0 a1 a2 a3 a4 a5 a6 a7 a8 a9 a10 : Option PV} {v : PV} {r : Env} : Wq (evalE cx (.var 11) (a0 :: a1 :: a2 :: a3 :: a4 :: a5 :: a6 :: a7 :: a8 :: a9 :: a10 :: some v :: r) S) P E = P v S := rfl
theorem n_11 {a0 a1 a2 a3 a4 a5 a6 a7 a8 a9 a10 : Option PV} {w : Option PV} {r : Env} {e : CE} : Ws (execS cx (.asg (.name 11) e) (a0 :: a1 :: a2 :: a3 :: a4 :: a5 :: a6 :: a7 :: a8 :: a9 :: a10 :: w :: r) S) K EX = Wq (evalE cx e (a0 :: a1 :: a2 :: a3 :: a4 :: a5 :: a6 :: a7 :: a8 :: a9 :: a10 :: w :: r) S) (fun v S => K (.nx (a0 :: a1 :: a2 :: a3 :: a4 :: a5 :: a6 :: a7 :: a8 :: a9 :: a10 :: some v :: r)) S) (fun x S => EX x (a0 :: a1 :: a2 :: a3 :: a4 :: a5 :: a6 :: a7 :: a8 :: a9 :: a10 :: w :: r) S) := by
  rw [W_asgn]; congr 1; funext v S; simp [List.set]
theorem g_11 {a0 a1 a2 a3 a4 a5 a6 a7 a8 a9 a10 : Option PV} {v : PV} {r : Env} : Wq (getV (a0 :: a1 :: a2 :: a3 :: a4 :: a5 :: a6 :: a7 :: a8 :: a9 :: a10 :: some v :: r) 11 S) P E = P v S := rfl
theorem t_11 {a0 a1 a2 a3 a4 a5 a6 a7 a8 a9 a10 : Option PV} {w : Option PV} {v : PV} {r : Env} {P : Env → Store → Prop} : Wq (assignE cx (.name 11) v (a0 :: a1 :: a2 :: a3 :: a4 :: a5 :: a6 :: a7 :: a8 :: a9 :: a10 :: w :: r) S) P E = P (a0 :: a1 :: a2 :: a3 :: a4 :: a5 :: a6 :: a7 :: a8 :: a9 :: a10 :: some v :: r) S := by
  rw [assignE, if_pos (by simp only [List.length_cons]; omega)]; rfl
theorem v_12 {a0 a1 a2 a3 a4 a5 a6 a7 a8 a9 a10 a11 : Option PV} {v : PV} {r : Env} : Wq (evalE cx (.var 12) (a0 :: a1 :: a2 :: a3 :: a4 :: a5 :: a6 :: a7 :: a8 :: a9 :: a10 :: a11 :: some v :: r) S) P E = P v S := rfl
theorem n_12 {a0 a1 a2 a3 a4 a5 a6 a7 a8 a9 a10 a11 : Option PV} {w : Option PV} {r : Env} {e : CE} : Ws (execS cx (.asg (.name 12) e) (a0 :: a1 :: a2 :: a3 :: a4 :: a5 :: a6 :: a7 :: a8 :: a9 :: a10 :: a11 :: w :: r) S) K EX = Wq (evalE cx e (a0 :: a1 :: a2 :: a3 :: a4 :: a5 :: a6 :: a7 :: a8 :: a9 :: a10 :: a11 :: w :: r) S) (fun v S => K (.nx (a0 :: a1 :: a2 :: a3 :: a4 :: a5 :: a6 :: a7 :: a8 :: a9 :: a10 :: a11 :: some v :: r)) S) (fun x S => EX x (a0 :: a1 :: a2 :: a3 :: a4 :: a5 :: a6 :: a7 :: a8 :: a9 :: a10 :: a11 :: w :: r) S) := by
  rw [W_asgn]; congr 1; funext v S; simp [List.set]
theorem g_12 {a0 a1 a2 a3 a4 a5 a6 a7 a8 a9 a10 a11 : Option PV} {v : PV} {r : Env} : Wq (getV (a0 :: a1 :: a2 :: a3 :: a4 :: a5 :: a6 :: a7 :: a8 :: a9 :: a10 :: a11 :: some v :: r) 12 S) P E = P v S := rfl
theorem t_12 {a0 a1 a2 a3 a4 a5 a6 a7 a8 a9 a10 a11 : Option PV} {w : Option PV} {v : PV} {r : Env} {P : Env → Store → Prop} : Wq (assignE cx (.name 12) v (a0 :: a1 :: a2 :: a3 :: a4 :: a5 :: a6 :: a7 :: a8 :: a9 :: a10 :: a11 :: w :: r) S) P E = P (a0 :: a1 :: a2 :: a3 :: a4 :: a5 :: a6 :: a7 :: a8 :: a9 :: a10 :: a11 :: some v :: r) S := by
  rw [assignE, if_pos (by simp only [List.length_cons]; omega)]; rfl
theorem v_13 {a0 a1 a2 a3 a4 a5 a6 a7 a8 a9 a10 a11 a12 : Option PV} {v : PV} {r : Env} : Wq (evalE cx (.var 13) (a0 :: a1 :: a2 :: a3 :: a4 :: a5 :: a6 :: a7 :: a8 :: a9 :: a10 :: a11 :: a12 :: some v :: r) S) P E = P v S := rfl
theorem n_13 {a0 a1 a2 a3 a4 a5 a6 a7 a8 a9 a10 a11 a12 : Option PV} {w : Option PV} {r : Env} {e : CE} : Ws (execS cx (.asg (.name 13) e) (a0 :: a1 :: a2 :: a3 :: a4 :: a5 :: a6 :: a7 :: a8 :: a9 :: a10 :: a11 :: a12 :: w :: r) S) K EX = Wq (evalE cx e (a0 :: a1 :: a2 :: a3 :: a4 :: a5 :: a6 :: a7 :: a8 :: a9 :: a10 :: a11 :: a12 :: w :: r) S) (fun v S => K (.nx (a0 :: a1 :: a2 :: a3 :: a4 :: a5 :: a6 :: a7 :: a8 :: a9 :: a10 :: a11 :: a12 :: some v :: r)) S) (fun x S => EX x (a0 :: a1 :: a2 :: a3 :: a4 :: a5 :: a6 :: a7 :: a8 :: a9 :: a10 :: a11 :: a12 :: w :: r) S) := by
  rw [W_asgn]; congr 1; funext v S; simp [List.set]
theorem g_13 {a0 a1 a2 a3 a4 a5 a6 a7 a8 a9 a10 a11 a12 : Option PV} {v : PV} {r : Env} : Wq (getV (a0 :: a1 :: a2 :: a3 :: a4 :: a5 :: a6 :: a7 :: a8 :: a9 :: a10 :: a11 :: a12 :: some v :: r) 13 S) P E = P v S := rfl
theorem t_13 {a0 a1 a2 a3 a4 a5 a6 a7 a8 a9 a10 a11 a12 : Option PV} {w : Option PV} {v : PV} {r : Env} {P : Env → Store → Prop} : Wq (assignE cx (.name 13) v (a0 :: a1 :: a2 :: a3 :: a4 :: a5 :: a6 :: a7 :: a8 :: a9 :: a10 :: a11 :: a12 :: w :: r) S) P E = P (a0 :: a1 :: a2 :: a3 :: a4 :: a5 :: a6 :: a7 :: a8 :: a9 :: a10 :: a11 :: a12 :: some v :: r) S := by
  rw [assignE, if_pos (by simp only [List.length_cons]; omega)]; rfl
theorem Iq_mem {S : Store} {p : Nat} {xs : List PV} {i : Int} {Q : PV → Prop} (h : S[p]? = some (.lst xs)) (h0 : 0 ≤ i) (h1 : i < xs.length) (hQ : ∀ x ∈ xs, Q x) : Iq (.ref p) (.int i) S Q := by
  obtain ⟨x, hx, hm⟩ := at_get h0 h1
  rw [Iq_L h, hx, Gq_s]
  exact hQ x hm
theorem Iq_memT {S : Store} {xs : List PV} {i : Int} {Q : PV → Prop} (h0 : 0 ≤ i) (h1 : i < xs.length) (hQ : ∀ x ∈ xs, Q x) : Iq (.tup xs) (.int i) S Q := by
  obtain ⟨x, hx, hm⟩ := at_get h0 h1
  rw [Iq_T, hx, Gq_s]
  exact hQ x hm
theorem Iq_memS {S : Store} {xs : Sy} {i : Int} {Q : PV → Prop} (hz : xs.length ≤ nsz) (h0 : 0 ≤ i) (h1 : i < xs.length) (hQ : ∀ x ∈ xs, Q (.str [x])) : Iq (.str xs) (.int i) S Q := by
  obtain ⟨x, hx, hm⟩ := at_get h0 h1
  rw [Iq_S hz, hx, Option.map_some, Gq_s]
  exact hQ x hm
theorem Ev.fresh {S S1 S2 : Store} {s : Nat} {o : MO} (a : Ev s S S1) (b : Ev s (S1 ++ [o]) S2) : S2[S1.length]? = some o := b.at' _ _ (by have := a.st.lt; omega) at_push
end L3
/-! L3Gen: generators' loops. -/
namespace L3
theorem lc_gen {cx : Cxi} {vs : List Nat} {i s : Nat} {elt : CE} {ρ : Env} {S : Store} {P : PV → Store → Prop} {E : Exn → Store → Prop} (good : Store → PV → Prop) (mono : ∀ {S S' v}, Ev s S S' → good S v → good S' v) (hs : Strm S s) (k : Nat) (hi : i < (wipe ρ vs).length) (hk : k < cx.T.F) (hz : k < nsz)
    (hb : ∀ (j : Nat) S', j < k → Ev s S S' → Wq (evalE cx elt ((wipe ρ vs).set i (some (.int (j : Nat)))) S') (fun y S2 => Ev s S' S2 ∧ good S2 y) NoX)
    (hP : ∀ S' xs, Ev s S S' → xs.length = k → (∀ x ∈ xs, good S' x) → P (.ref S'.length) (S' ++ [.lst xs])) : Lcw cx vs (.name i) (.con (.bl true)) elt (.rng 0 k) ρ S P E := by
  refine Lcw_I k (fun j acc S' => Ev s S S' ∧ acc.length = j ∧ ∀ x ∈ acc, good S' x) ⟨Ev.refl hs, rfl, by simp⟩ hk hz ?_
  rintro j acc S' ⟨e, hl, hg⟩ hj ha
  refine ⟨fun hlt => ⟨.int (j : Nat), by simp [ItV.next, hlt], ?_⟩, fun he => ⟨by simp [ItV.next, he], ?_⟩⟩
  · rw [assignE, if_pos hi, Wq_ok]
    refine (hb j S' hlt e).imp fun y S2 q => ⟨e.trans q.1, by simp [hl], ?_⟩
    intro x hx
    rcases List.mem_append.mp hx with h | h
    · exact mono q.1 (hg x h)
    · rw [List.mem_singleton.mp h]
      exact q.2
  · exact hP S' acc e (by omega) hg
theorem okv.mono' {s : Nat} {S S' : Store} {v : PV} (e : Ev s S S') (h : okv s S v) : okv s S' v := h.ev e
end L3
namespace LD
open L3 PySem L2
abbrev z_abcdefghijklmnopqrstuvwxyz : Sy := [97, 98, 99, 100, 101, 102, 103, 104, 105, 106, 107, 108, 109, 110, 111, 112, 113, 114, 115, 116, 117, 118, 119, 120, 121, 122]
abbrev z_0123456789 : Sy := [48, 49, 50, 51, 52, 53, 54, 55, 56, 57]
abbrev z_tuple : Sy := [116, 117, 112, 108, 101]
abbrev z_name : Sy := [110, 97, 109, 101]
abbrev z_atom : Sy := [97, 116, 111, 109]
abbrev z_int : Sy := [105, 110, 116]
abbrev z_var : Sy := [118, 97, 114]
abbrev z_abz019 : Sy := [97, 98, 122, 48, 49, 57]
abbrev z_abz : Sy := [97, 98, 122]
abbrev z_a : Sy := [97]
abbrev z_b : Sy := [98]
abbrev z_nil : Sy := [110, 105, 108]
abbrev z_x1 : Sy := [120, 49]
abbrev z_abcdefghijkl : Sy := [97, 98, 99, 100, 101, 102, 103, 104, 105, 106, 107, 108]
abbrev z_f : Sy := [102]
abbrev z_fa : Sy := [102, 97]
abbrev z_cons : Sy := [99, 111, 110, 115]
abbrev z_cell : Sy := [99, 101, 108, 108]
abbrev z_z : Sy := [122]
abbrev z_empty : Sy := []
abbrev z_A : Sy := [65]
abbrev z_1a : Sy := [49, 97]
abbrev z_a_95_b : Sy := [97, 95, 98]
abbrev z_abcdefghijklm : Sy := [97, 98, 99, 100, 101, 102, 103, 104, 105, 106, 107, 108, 109]
abbrev z_a_10_ : Sy := [97, 10]
abbrev z_aB : Sy := [97, 66]
abbrev z_a_32_b : Sy := [97, 32, 98]
abbrev z_a_45_ : Sy := [97, 45]
abbrev z_a_126_ : Sy := [97, 126]
abbrev z_a0B : Sy := [97, 48, 66]
abbrev z_Tuple : Sy := [84, 117, 112, 108, 101]
abbrev z_ints : Sy := [105, 110, 116, 115]
def b_is_whole : CSs := (.cons (.ret (.and (.isi (.var 0) .int) (.nt (.isi (.var 0) .bool)))) .nil)
def f_is_whole : Fn := ⟨1, 1, b_is_whole⟩
def b_is_atom : CSs := (.cons (.ite (.or (.nt (.isi (.var 0) .str)) (.or (.nt (.chn .le .le (.con (.int 1)) (.bf .len (.cons (.var 0) .nil)) (.glo 2))) (.cmp .nin (.idx (.var 0) (.con (.int 0))) (.glo 4)))) (.cons (.ret (.con (.bl false))) .nil) .nil) (.cons (.ret (.bf .all (.cons (.lc [1] (.name 1) (.seq (.var 0)) (.con (.bl true)) (.or (.cmp .inn (.var 1) (.glo 4)) (.cmp .inn (.var 1) (.glo 5)))) .nil))) .nil))
def f_is_atom : Fn := ⟨1, 2, b_is_atom⟩
def b_is_count : CSs := (.cons (.ret (.and (.cal 0 (.cons (.var 0) .nil)) (.chn .le .le (.con (.int 0)) (.var 0) (.glo 3)))) .nil)
def f_is_count : Fn := ⟨1, 1, b_is_count⟩
def b_is_node : CSs := (.cons (.ite (.or (.nt (.isi (.var 0) .tuple)) (.or (.nt (.var 0)) (.nt (.isi (.idx (.var 0) (.con (.int 0))) .str)))) (.cons (.ret (.con (.bl false))) .nil) .nil) (.cons (.asg (.name 2) (.idx (.var 0) (.con (.int 0)))) (.cons (.ite (.cmp .eq (.var 2) (.con (.str z_var))) (.cons (.ret (.and (.cmp .eq (.bf .len (.cons (.var 0) .nil)) (.con (.int 2))) (.cal 2 (.cons (.idx (.var 0) (.con (.int 1))) .nil)))) .nil) .nil) (.cons (.ite (.cmp .eq (.var 2) (.con (.str z_int))) (.cons (.ret (.and (.cmp .eq (.bf .len (.cons (.var 0) .nil)) (.con (.int 2))) (.and (.cal 0 (.cons (.idx (.var 0) (.con (.int 1))) .nil)) (.cmp .le (.bf .abs (.cons (.idx (.var 0) (.con (.int 1))) .nil)) (.glo 3))))) .nil) .nil) (.cons (.ite (.cmp .eq (.var 2) (.con (.str z_atom))) (.cons (.ret (.and (.cmp .eq (.bf .len (.cons (.var 0) .nil)) (.con (.int 2))) (.cal 1 (.cons (.idx (.var 0) (.con (.int 1))) .nil)))) .nil) .nil) (.cons (.ite (.or (.cmp .ne (.bf .len (.cons (.var 0) .nil)) (.con (.int 3))) (.nt (.cal 1 (.cons (.idx (.var 0) (.con (.int 1))) .nil)))) (.cons (.ret (.con (.bl false))) .nil) .nil) (.cons (.ite (.cmp .eq (.var 2) (.con (.str z_name))) (.cons (.ret (.cal 2 (.cons (.idx (.var 0) (.con (.int 2))) .nil))) .nil) .nil) (.cons (.ite (.or (.cmp .ne (.var 2) (.con (.str z_tuple))) (.or (.nt (.isi (.idx (.var 0) (.con (.int 2))) .tuple)) (.nt (.chn .le .le (.con (.int 1)) (.bf .len (.cons (.idx (.var 0) (.con (.int 2))) .nil)) (.glo 1))))) (.cons (.ret (.con (.bl false))) .nil) .nil) (.cons (.ret (.bf .all (.cons (.lc [3] (.name 3) (.seq (.idx (.var 0) (.con (.int 2)))) (.con (.bl true)) (.and (.cal 0 (.cons (.var 3) .nil)) (.chn .le .lt (.con (.int 0)) (.var 3) (.var 1)))) .nil))) .nil)))))))))
def f_is_node : Fn := ⟨2, 4, b_is_node⟩
def b_is_graph : CSs := (.cons (.ite (.or (.nt (.isi (.var 0) .tuple)) (.nt (.chn .le .le (.con (.int 1)) (.bf .len (.cons (.var 0) .nil)) (.glo 0)))) (.cons (.ret (.con (.bl false))) .nil) .nil) (.cons (.ret (.bf .all (.cons (.lc [1] (.name 1) (.seq (.var 0)) (.con (.bl true)) (.cal 3 (.cons (.var 1) (.cons (.bf .len (.cons (.var 0) .nil)) .nil)))) .nil))) .nil))
def f_is_graph : Fn := ⟨1, 2, b_is_graph⟩
def b__law_stream : CSs := (.cons (.asg (.name 1) (.con (.int 17))) (.cons (.fr (.name 2) (.seq (.var 0)) (.cons (.asg (.name 1) (.bin .mod (.bf .int (.cons (.bin .add (.bin .add (.bin .mul (.var 1) (.con (.int 48271))) (.bin .mod (.bf .int (.cons (.var 2) .nil)) (.con (.int 65521)))) (.con (.int 1))) .nil)) (.con (.int 2147483647)))) .nil)) (.cons (.ret (.lst (.cons (.bf .list (.cons (.var 0) .nil)) (.cons (.con (.int 0)) (.cons (.con (.int 0)) (.cons (.var 1) .nil)))))) .nil)))
def f__law_stream : Fn := ⟨1, 3, b__law_stream⟩
def b__law_draw : CSs := (.cons (.ite (.and (.cmp .eq (.idx (.var 0) (.con (.int 1))) (.con (.int 0))) (.cmp .lt (.idx (.var 0) (.con (.int 2))) (.bf .len (.cons (.idx (.var 0) (.con (.int 0))) .nil)))) (.cons (.asg (.sub (.var 0) (.con (.int 1))) (.bf .abs (.cons (.bf .int (.cons (.idx (.idx (.var 0) (.con (.int 0))) (.idx (.var 0) (.con (.int 2)))) .nil)) .nil))) (.cons (.asg (.sub (.var 0) (.con (.int 2))) (.bin .add (.idx (.var 0) (.con (.int 2))) (.con (.int 1)))) .nil)) .nil) (.cons (.ite (.cmp .eq (.idx (.var 0) (.con (.int 1))) (.con (.int 0))) (.cons (.asg (.sub (.var 0) (.con (.int 3))) (.bin .mod (.bf .int (.cons (.bin .add (.bin .mul (.idx (.var 0) (.con (.int 3))) (.con (.int 48271))) (.con (.int 11))) .nil)) (.con (.int 2147483647)))) (.cons (.ret (.bin .mod (.bf .int (.cons (.bin .fdiv (.idx (.var 0) (.con (.int 3))) (.con (.int 97))) .nil)) (.var 1))) .nil)) .nil) (.cons (.asg (.name 2) (.bin .mod (.bf .int (.cons (.idx (.var 0) (.con (.int 1))) .nil)) (.var 1))) (.cons (.asg (.sub (.var 0) (.con (.int 1))) (.bin .fdiv (.idx (.var 0) (.con (.int 1))) (.var 1))) (.cons (.ret (.var 2)) .nil)))))
def f__law_draw : Fn := ⟨2, 3, b__law_draw⟩
def b__law_far : CSs := (.cons (.ite (.cmp .gt (.cal 6 (.cons (.var 0) (.cons (.con (.int 4)) .nil))) (.con (.int 0))) (.cons (.ret (.cal 6 (.cons (.var 0) (.cons (.con (.int 3)) .nil)))) .nil) .nil) (.cons (.ret (.idx (.lst (.cons (.con (.int 10)) (.cons (.con (.int 12)) (.cons (.bin .pow (.con (.int 10)) (.con (.int 9))) (.cons (.cal 6 (.cons (.var 0) (.cons (.bin .pow (.con (.int 10)) (.con (.int 9))) .nil))) .nil))))) (.cal 6 (.cons (.var 0) (.cons (.con (.int 4)) .nil))))) .nil))
def f__law_far : Fn := ⟨1, 1, b__law_far⟩
def b__law_atom : CSs := (.cons (.ite (.cmp .gt (.cal 6 (.cons (.var 0) (.cons (.con (.int 3)) .nil))) (.con (.int 0))) (.cons (.ret (.idx (.lst (.cons (.con (.str z_a)) (.cons (.con (.str z_b)) (.cons (.con (.str z_nil)) (.cons (.con (.str z_x1)) (.cons (.con (.str z_abcdefghijkl)) .nil)))))) (.cal 6 (.cons (.var 0) (.cons (.con (.int 5)) .nil))))) .nil) .nil) (.cons (.asg (.name 1) (.idx (.con (.str z_abz)) (.cal 6 (.cons (.var 0) (.cons (.con (.int 3)) .nil))))) (.cons (.fr (.name 2) (.rng (.cal 6 (.cons (.var 0) (.cons (.con (.int 3)) .nil)))) (.cons (.asg (.name 1) (.bin .add (.var 1) (.idx (.con (.str z_abz019)) (.cal 6 (.cons (.var 0) (.cons (.con (.int 6)) .nil)))))) .nil)) (.cons (.ret (.var 1)) .nil))))
def f__law_atom : Fn := ⟨1, 3, b__law_atom⟩
def b__law_node : CSs := (.cons (.asg (.name 2) (.cal 6 (.cons (.var 0) (.cons (.con (.int 9)) .nil)))) (.cons (.ite (.cmp .eq (.var 2) (.con (.int 0))) (.cons (.ret (.tup (.cons (.con (.str z_var)) (.cons (.cal 7 (.cons (.var 0) .nil)) .nil)))) .nil) .nil) (.cons (.ite (.cmp .eq (.var 2) (.con (.int 1))) (.cons (.ret (.tup (.cons (.con (.str z_int)) (.cons (.idx (.lst (.cons (.con (.int 0)) (.cons (.con (.int 1)) (.cons (.neg (.con (.int 1))) (.cons (.con (.int 7)) (.cons (.neg (.con (.int 12))) (.cons (.bin .pow (.con (.int 10)) (.con (.int 9))) (.cons (.neg (.bin .pow (.con (.int 10)) (.con (.int 9)))) .nil)))))))) (.cal 6 (.cons (.var 0) (.cons (.con (.int 7)) .nil)))) .nil)))) .nil) .nil) (.cons (.ite (.cmp .eq (.var 2) (.con (.int 2))) (.cons (.ret (.tup (.cons (.con (.str z_atom)) (.cons (.cal 8 (.cons (.var 0) .nil)) .nil)))) .nil) .nil) (.cons (.ite (.cmp .eq (.var 2) (.con (.int 3))) (.cons (.ret (.tup (.cons (.con (.str z_name)) (.cons (.cal 8 (.cons (.var 0) .nil)) (.cons (.cal 7 (.cons (.var 0) .nil)) .nil))))) .nil) .nil) (.cons (.asg (.name 3) (.lc [4] (.name 4) (.rng (.idx (.lst (.cons (.con (.int 1)) (.cons (.con (.int 2)) (.cons (.con (.int 2)) (.cons (.con (.int 3)) (.cons (.con (.int 6)) .nil)))))) (.cal 6 (.cons (.var 0) (.cons (.con (.int 5)) .nil))))) (.con (.bl true)) (.cal 6 (.cons (.var 0) (.cons (.var 1) .nil))))) (.cons (.ret (.tup (.cons (.con (.str z_tuple)) (.cons (.idx (.lst (.cons (.con (.str z_f)) (.cons (.con (.str z_f)) (.cons (.con (.str z_fa)) (.cons (.con (.str z_cons)) (.cons (.con (.str z_cell)) .nil)))))) (.cal 6 (.cons (.var 0) (.cons (.con (.int 5)) .nil)))) (.cons (.bf .tuple (.cons (.var 3) .nil)) .nil))))) .nil)))))))
def f__law_node : Fn := ⟨2, 5, b__law_node⟩
def b__law_graph : CSs := (.cons (.asg (.name 2) (.bin .add (.con (.int 1)) (.cal 6 (.cons (.var 0) (.cons (.var 1) .nil))))) (.cons (.ret (.bf .tuple (.cons (.lc [3] (.name 3) (.rng (.var 2)) (.con (.bl true)) (.cal 9 (.cons (.var 0) (.cons (.var 2) .nil)))) .nil))) .nil))
def f__law_graph : Fn := ⟨2, 4, b__law_graph⟩
def b__law_is_number : CSs := (.cons (.ret (.and (.isi (.var 0) .int) (.and (.nt (.isi (.var 0) .bool)) (.chn .le .le (.var 1) (.var 0) (.var 2))))) .nil)
def f__law_is_number : Fn := ⟨3, 3, b__law_is_number⟩
def b__law_is_atom : CSs := (.cons (.asg (.name 1) (.con (.str z_abcdefghijklmnopqrstuvwxyz))) (.cons (.ite (.or (.nt (.isi (.var 0) .str)) (.or (.nt (.chn .le .le (.con (.int 1)) (.bf .len (.cons (.var 0) .nil)) (.con (.int 12)))) (.cmp .nin (.idx (.var 0) (.con (.int 0))) (.var 1)))) (.cons (.ret (.con (.bl false))) .nil) .nil) (.cons (.ret (.bf .all (.cons (.lc [2] (.name 2) (.seq (.var 0)) (.con (.bl true)) (.cmp .inn (.var 2) (.bin .add (.var 1) (.con (.str z_0123456789))))) .nil))) .nil)))
def f__law_is_atom : Fn := ⟨1, 3, b__law_is_atom⟩
def b__law_is_node : CSs := (.cons (.ite (.or (.nt (.isi (.var 0) .tuple)) (.or (.cmp .lt (.bf .len (.cons (.var 0) .nil)) (.con (.int 2))) (.nt (.isi (.idx (.var 0) (.con (.int 0))) .str)))) (.cons (.ret (.con (.bl false))) .nil) .nil) (.cons (.ite (.cmp .eq (.idx (.var 0) (.con (.int 0))) (.con (.str z_var))) (.cons (.ret (.and (.cmp .eq (.bf .len (.cons (.var 0) .nil)) (.con (.int 2))) (.cal 11 (.cons (.idx (.var 0) (.con (.int 1))) (.cons (.con (.int 0)) (.cons (.bin .pow (.con (.int 10)) (.con (.int 9))) .nil)))))) .nil) .nil) (.cons (.ite (.cmp .eq (.idx (.var 0) (.con (.int 0))) (.con (.str z_int))) (.cons (.ret (.and (.cmp .eq (.bf .len (.cons (.var 0) .nil)) (.con (.int 2))) (.cal 11 (.cons (.idx (.var 0) (.con (.int 1))) (.cons (.neg (.bin .pow (.con (.int 10)) (.con (.int 9)))) (.cons (.bin .pow (.con (.int 10)) (.con (.int 9))) .nil)))))) .nil) .nil) (.cons (.ite (.cmp .eq (.idx (.var 0) (.con (.int 0))) (.con (.str z_atom))) (.cons (.ret (.and (.cmp .eq (.bf .len (.cons (.var 0) .nil)) (.con (.int 2))) (.cal 12 (.cons (.idx (.var 0) (.con (.int 1))) .nil)))) .nil) .nil) (.cons (.ite (.or (.cmp .ne (.bf .len (.cons (.var 0) .nil)) (.con (.int 3))) (.nt (.cal 12 (.cons (.idx (.var 0) (.con (.int 1))) .nil)))) (.cons (.ret (.con (.bl false))) .nil) .nil) (.cons (.ite (.cmp .eq (.idx (.var 0) (.con (.int 0))) (.con (.str z_name))) (.cons (.ret (.cal 11 (.cons (.idx (.var 0) (.con (.int 2))) (.cons (.con (.int 0)) (.cons (.bin .pow (.con (.int 10)) (.con (.int 9))) .nil))))) .nil) .nil) (.cons (.ite (.or (.cmp .ne (.idx (.var 0) (.con (.int 0))) (.con (.str z_tuple))) (.or (.nt (.isi (.idx (.var 0) (.con (.int 2))) .tuple)) (.nt (.chn .le .le (.con (.int 1)) (.bf .len (.cons (.idx (.var 0) (.con (.int 2))) .nil)) (.con (.int 6)))))) (.cons (.ret (.con (.bl false))) .nil) .nil) (.cons (.ret (.bf .all (.cons (.lc [2] (.name 2) (.seq (.idx (.var 0) (.con (.int 2)))) (.con (.bl true)) (.cal 11 (.cons (.var 2) (.cons (.con (.int 0)) (.cons (.bin .sub (.var 1) (.con (.int 1))) .nil))))) .nil))) .nil))))))))
def f__law_is_node : Fn := ⟨2, 3, b__law_is_node⟩
def b__law_due : CSs := (.cons (.ite (.or (.nt (.isi (.var 0) .tuple)) (.nt (.chn .le .le (.con (.int 1)) (.bf .len (.cons (.var 0) .nil)) (.con (.int 400))))) (.cons (.ret (.con (.bl false))) .nil) .nil) (.cons (.ret (.bf .all (.cons (.lc [1] (.name 1) (.seq (.var 0)) (.con (.bl true)) (.cal 13 (.cons (.var 1) (.cons (.bf .len (.cons (.var 0) .nil)) .nil)))) .nil))) .nil))
def f__law_due : Fn := ⟨1, 2, b__law_due⟩
def b__law_odd : CSs := (.cons (.asg (.name 2) (.lst (.cons (.con (.bl true)) (.cons (.con (.bl false)) (.cons (.con .non) (.cons (.neg (.con (.int 1))) (.cons (.var 1) (.cons (.bin .pow (.con (.int 10)) (.con (.int 9))) (.cons (.bin .add (.bin .pow (.con (.int 10)) (.con (.int 9))) (.con (.int 1))) (.cons (.bin .sub (.neg (.bin .pow (.con (.int 10)) (.con (.int 9)))) (.con (.int 1))) (.cons (.con (.str z_empty)) (.cons (.con (.str z_A)) (.cons (.con (.str z_1a)) (.cons (.con (.str z_a_95_b)) (.cons (.con (.str z_abcdefghijklm)) (.cons (.con (.str z_a_10_)) (.cons (.con (.str z_aB)) (.cons (.con (.str z_a_32_b)) (.cons (.con (.str z_a_45_)) (.cons (.con (.str z_a_126_)) (.cons (.con (.str z_a0B)) .nil))))))))))))))))))))) (.cons (.asg (.name 2) (.bin .add (.var 2) (.lst (.cons (.tup .nil) (.cons (.bin .mul (.tup (.cons (.con (.int 0)) .nil)) (.con (.int 6))) (.cons (.bin .mul (.tup (.cons (.con (.int 0)) .nil)) (.con (.int 7))) (.cons (.lst (.cons (.con (.int 0)) .nil)) (.cons (.tup (.cons (.con (.int 0)) (.cons (.var 1) .nil))) (.cons (.tup (.cons (.con (.bl true)) .nil)) (.cons (.tup (.cons (.con .non) .nil)) (.cons (.con (.str z_var)) (.cons (.con (.str z_int)) (.cons (.con (.str z_atom)) (.cons (.con (.str z_tuple)) (.cons (.con (.str z_name)) (.cons (.con (.str z_z)) .nil)))))))))))))))) (.cons (.ret (.idx (.var 2) (.cal 6 (.cons (.var 0) (.cons (.bf .len (.cons (.var 2) .nil)) .nil))))) .nil)))
def f__law_odd : Fn := ⟨2, 3, b__law_odd⟩
def b__law_changed : CSs := (.cons (.asg (.name 2) (.cal 6 (.cons (.var 0) (.cons (.bf .len (.cons (.var 1) .nil)) .nil)))) (.cons (.asg (.name 3) (.idx (.var 1) (.var 2))) (.cons (.asg (.name 4) (.cal 6 (.cons (.var 0) (.cons (.con (.int 6)) .nil)))) (.cons (.ite (.cmp .lt (.var 4) (.con (.int 3))) (.cons (.asg (.name 5) (.cal 6 (.cons (.var 0) (.cons (.bf .len (.cons (.var 3) .nil)) .nil)))) (.cons (.asg (.name 3) (.bin .add (.bin .add (.slc (.var 3) .no (.ex (.var 5))) (.tup (.cons (.cal 15 (.cons (.var 0) (.cons (.bf .len (.cons (.var 1) .nil)) .nil))) .nil))) (.slc (.var 3) (.ex (.bin .add (.var 5) (.con (.int 1)))) .no))) .nil)) (.cons (.ite (.cmp .eq (.var 4) (.con (.int 3))) (.cons (.asg (.name 3) (.idx (.lst (.cons (.slc (.var 3) .no (.ex (.neg (.con (.int 1))))) (.cons (.bin .add (.var 3) (.tup (.cons (.con (.int 0)) .nil))) (.cons (.bf .list (.cons (.var 3) .nil)) (.cons (.tup .nil) (.cons (.con .non) (.cons (.idx (.var 3) (.con (.int 0))) .nil))))))) (.cal 6 (.cons (.var 0) (.cons (.con (.int 6)) .nil))))) .nil) (.cons (.ite (.cmp .eq (.var 4) (.con (.int 4))) (.cons (.ret (.idx (.lst (.cons (.bf .list (.cons (.var 1) .nil)) (.cons (.tup .nil) (.cons (.con .non) (.cons (.con (.str z_a)) (.cons (.idx (.var 1) (.var 2)) (.cons (.con (.int 0)) (.cons (.con (.bl true)) .nil)))))))) (.cal 6 (.cons (.var 0) (.cons (.con (.int 7)) .nil))))) .nil) (.cons (.asg (.name 3) (.bin .add (.tup (.cons (.idx (.lst (.cons (.con (.str z_Tuple)) (.cons (.con (.str z_empty)) (.cons (.con (.str z_ints)) (.cons (.con (.int 0)) (.cons (.con .non) .nil)))))) (.cal 6 (.cons (.var 0) (.cons (.con (.int 5)) .nil)))) .nil)) (.slc (.var 3) (.ex (.con (.int 1))) .no))) .nil)) .nil)) .nil)) (.cons (.ret (.bin .add (.bin .add (.slc (.var 1) .no (.ex (.var 2))) (.tup (.cons (.var 3) .nil))) (.slc (.var 1) (.ex (.bin .add (.var 2) (.con (.int 1)))) .no))) .nil)))))
def f__law_changed : Fn := ⟨2, 6, b__law_changed⟩
def b_law : CSs := (.cons (.asg (.name 1) (.cal 5 (.cons (.var 0) .nil))) (.cons (.asg (.name 2) (.cal 10 (.cons (.var 1) (.cons (.con (.int 8)) .nil)))) (.cons (.ite (.or (.cmp .isn (.cal 4 (.cons (.var 2) .nil)) (.con (.bl true))) (.cmp .ne (.glo 0) (.con (.int 400)))) (.cons (.ret (.con (.bl false))) .nil) .nil) (.cons (.fr (.name 3) (.rng (.cal 6 (.cons (.var 1) (.cons (.con (.int 4)) .nil)))) (.cons (.ite (.and (.cmp .lt (.var 3) (.con (.int 2))) (.cal 14 (.cons (.var 2) .nil))) (.cons (.asg (.name 2) (.cal 16 (.cons (.var 1) (.cons (.var 2) .nil)))) .nil) .nil) .nil)) (.cons (.asg (.name 4) (.cal 4 (.cons (.var 2) .nil))) (.cons (.ite (.or (.nt (.isi (.var 4) .bool)) (.cmp .ne (.var 4) (.cal 14 (.cons (.var 2) .nil)))) (.cons (.ret (.con (.bl false))) .nil) .nil) (.cons (.asg (.name 5) (.bin .add (.con (.int 399)) (.cal 6 (.cons (.var 1) (.cons (.con (.int 4)) .nil))))) (.cons (.ret (.cmp .eq (.cal 4 (.cons (.bin .mul (.tup (.cons (.tup (.cons (.con (.str z_atom)) (.cons (.con (.str z_a)) .nil))) .nil)) (.var 5)) .nil)) (.cmp .le (.var 5) (.con (.int 400))))) .nil))))))))
def f_law : Fn := ⟨1, 6, b_law⟩
abbrev g_MOST_NODES : PV := (.int 400)
abbrev g_MOST_PARTS : PV := (.int 6)
abbrev g_MOST_ATOM : PV := (.int 12)
abbrev g_MOST_NUMBER : PV := (.int 1000000000)
abbrev g_SMALL : PV := (.str z_abcdefghijklmnopqrstuvwxyz)
abbrev g_DIGITS : PV := (.str z_0123456789)
/-- the table: 0 is_whole, 1 is_atom, 2 is_count, 3 is_node, 4 is_graph, 5 _law_stream, 6 _law_draw, 7 _law_far, 8 _law_atom, 9 _law_node, 10 _law_graph, 11 _law_is_number, 12 _law_is_atom, 13 _law_is_node, 14 _law_due, 15 _law_odd, 16 _law_changed, 17 law -/
def tab : Tab := { fns := [f_is_whole, f_is_atom, f_is_count, f_is_node, f_is_graph, f__law_stream, f__law_draw, f__law_far, f__law_atom, f__law_node, f__law_graph, f__law_is_number, f__law_is_atom, f__law_is_node, f__law_due, f__law_odd, f__law_changed, f_law], glob := [g_MOST_NODES, g_MOST_PARTS, g_MOST_ATOM, g_MOST_NUMBER, g_SMALL, g_DIGITS] }
theorem tab_is_whole : tab.fns[0]? = some f_is_whole := rfl
theorem tab_is_atom : tab.fns[1]? = some f_is_atom := rfl
theorem tab_is_count : tab.fns[2]? = some f_is_count := rfl
theorem tab_is_node : tab.fns[3]? = some f_is_node := rfl
theorem tab_is_graph : tab.fns[4]? = some f_is_graph := rfl
theorem tab__law_stream : tab.fns[5]? = some f__law_stream := rfl
theorem tab__law_draw : tab.fns[6]? = some f__law_draw := rfl
theorem tab__law_far : tab.fns[7]? = some f__law_far := rfl
theorem tab__law_atom : tab.fns[8]? = some f__law_atom := rfl
theorem tab__law_node : tab.fns[9]? = some f__law_node := rfl
theorem tab__law_graph : tab.fns[10]? = some f__law_graph := rfl
theorem tab__law_is_number : tab.fns[11]? = some f__law_is_number := rfl
theorem tab__law_is_atom : tab.fns[12]? = some f__law_is_atom := rfl
theorem tab__law_is_node : tab.fns[13]? = some f__law_is_node := rfl
theorem tab__law_due : tab.fns[14]? = some f__law_due := rfl
theorem tab__law_odd : tab.fns[15]? = some f__law_odd := rfl
theorem tab__law_changed : tab.fns[16]? = some f__law_changed := rfl
theorem tab_law : tab.fns[17]? = some f_law := rfl
theorem glob_MOST_NODES : tab.glob[0]? = some g_MOST_NODES := rfl
theorem glob_MOST_PARTS : tab.glob[1]? = some g_MOST_PARTS := rfl
theorem glob_MOST_ATOM : tab.glob[2]? = some g_MOST_ATOM := rfl
theorem glob_MOST_NUMBER : tab.glob[3]? = some g_MOST_NUMBER := rfl
theorem glob_SMALL : tab.glob[4]? = some g_SMALL := rfl
theorem glob_DIGITS : tab.glob[5]? = some g_DIGITS := rfl
end LD
set_option maxRecDepth 100000
namespace LD
open L3
local macro_rules | `(tactic| walk_at "e") => `(tactic| try simp -dsimp only [↓y_cons, ↓y_if, ↓W_asub, ↓W_rt, ↓W_ex, ↓W_fr, ↓W_lc, ↓W_pass, ↓W_brk, ↓W_cnt, ↓W_retn, ↓W_nil, ↓nxt_nx, ↓nxt_rt, ↓nxt_bk, ↓nxt_ct, ↓retK_rt, ↓retK_nx, ↓e_con, ↓e_glo, ↓e_tup, ↓e_lst, ↓e_bin, ↓e_negi, ↓e_nt, ↓T_idx, ↓T_cal, ↓T_bf, ↓T_bin, ↓T_tup, ↓T_fld, ↓T_mth, ↓T_ife, ↓T_var, ↓T_glo, ↓T_con, ↓T_cmp, ↓T_chn, ↓T_isi, ↓T_nt, ↓T_and, ↓T_or, ↓e_and, ↓e_or, ↓e_ife, ↓e_cmp, ↓e_chn, ↓e_idx, ↓e_slc, ↓e_fld, ↓e_cal, ↓e_mth, ↓e_bf1, ↓e_bf, ↓e_isi, ↓es_nil, ↓es_cons, ↓eo_no, ↓i_seq, ↓q_tup, ↓q_rol, ↓q_str, ↓o_addi, ↓o_subi, ↓o_p9, ↓o_slct, ↓u_lenT, ↓u_lenC, ↓u_int, ↓u_abs, ↓u_max, ↓u_min, ↓u_tupT, ↓u_lstT, ↓u_lstC, ↓Br_t, ↓Br_f, ↓Br_n, ↓Tq_bl, ↓Tq_int, ↓Tq_tup, ↓Tq_rol, ↓Tq_non, ↓Gq_s, ↓Yq_non, ↓Yq_bl, ↓Yq_int, ↓Yq_str, ↓Yq_tup, ↓Yq_rol, ↓Cq_isnn, ↓Cq_isN, ↓Iq_T, ↓Iq_C, ↓Cq_eqi, ↓Cq_nei, ↓Cq_eqs, ↓Cq_nes, ↓Cq_eqb, ↓Cq_neb, ↓Cq_lti, ↓Cq_lei, ↓Cq_gti, ↓Cq_gei, ↓Cq_isb, ↓Cq_isnb, ↓Cq_lts, ↓Cq_inn1, ↓Cq_nin1, ↓v_0, ↓n_0, ↓g_0, ↓t_0, ↓v_1, ↓n_1, ↓g_1, ↓t_1, ↓v_2, ↓n_2, ↓g_2, ↓t_2, ↓v_3, ↓n_3, ↓g_3, ↓t_3, ↓v_4, ↓n_4, ↓g_4, ↓t_4, ↓v_5, ↓n_5, ↓g_5, ↓t_5, ↓v_6, ↓n_6, ↓g_6, ↓t_6, ↓v_7, ↓n_7, ↓g_7, ↓t_7, ↓v_8, ↓n_8, ↓g_8, ↓t_8, ↓v_9, ↓n_9, ↓g_9, ↓t_9, ↓v_10, ↓n_10, ↓g_10, ↓t_10, ↓v_11, ↓n_11, ↓g_11, ↓t_11, ↓v_12, ↓n_12, ↓g_12, ↓t_12, ↓v_13, ↓n_13, ↓g_13, ↓t_13, Br_t, Br_f, Br_n, Tq_bl, Tq_int, Tq_tup, Tq_rol, Tq_non, Gq_s, Yq_non, Yq_bl, Yq_int, Yq_str, Yq_tup, Yq_rol, Cq_isnn, Cq_isN, Iq_T, Iq_C, Cq_eqi, Cq_nei, Cq_eqs, Cq_nes, Cq_eqb, Cq_neb, Cq_lti, Cq_lei, Cq_gti, Cq_gei, Cq_isb, Cq_isnb, Cq_lts, Cq_inn1, Cq_nin1, e_neg, eo_ex, i_rng, i_rng2, y_aug, at_0, at_1, at_2, at_3, cxF_T, cxF_call, Bool.not_true, Bool.not_false, Bool.false_eq_true, if_true, if_false, tyB, PV.int.injEq, exists_eq_left, exists_eq_left', List.isEmpty_nil, List.isEmpty_cons, List.length_cons, List.length_nil, List.map_cons, List.map_nil, Option.map_some, startEnv, List.replicate, List.cons_append, List.nil_append, PV.int.injEq, glob_MOST_NODES, glob_MOST_PARTS, glob_MOST_ATOM, glob_MOST_NUMBER, glob_SMALL, glob_DIGITS, g_MOST_NODES, g_MOST_PARTS, g_MOST_ATOM, g_MOST_NUMBER, g_SMALL, g_DIGITS])
local macro_rules | `(tactic| walk_at "b") => `(tactic| first | (refine Br_d (fun h => ?_) (fun h => ?_) <;> walk_at "e") | (refine Br_e (fun h => ?_) (fun h => ?_) <;> walk_at "e") | (refine Br_i (fun h => ?_) (fun h => ?_) <;> walk_at "e"))
def isWhole : PV → Bool
  | .int _ => true
  | _ => false
def inR (lo hi : Int) : PV → Bool
  | .int i => decide (lo ≤ i) && decide (i ≤ hi)
  | _ => false
def atomP : PV → Bool
  | .str x => decide (1 ≤ x.length) && decide (x.length ≤ 12) && (match x with | c :: _ => z_abcdefghijklmnopqrstuvwxyz.elem c | [] => false) && x.all (fun c => z_abcdefghijklmnopqrstuvwxyz.elem c || z_0123456789.elem c)
  | _ => false
def one (f : PV → Bool) : List PV → Bool
  | [x] => f x
  | _ => false
def partsP (k : Int) : PV → Bool
  | .tup ps => decide (1 ≤ ps.length) && decide (ps.length ≤ 6) && ps.all (inR 0 (k - 1))
  | _ => false
def two (w : Sy) (k : Int) : List PV → Bool
  | [x, y] => atomP x && (bif w == z_name then inR 0 1000000000 y else w == z_tuple && partsP k y)
  | _ => false
def nodeP (v : PV) (k : Int) : Bool := match v with
  | .tup (.str w :: r) => bif w == z_var then one (inR 0 1000000000) r else bif w == z_int then one (inR (-1000000000) 1000000000) r else bif w == z_atom then one atomP r else two w k r
  | _ => false
theorem elem_app {a b : Sy} {d : Nat} : (a ++ b).elem d = (a.elem d || b.elem d) := by simp
theorem fin {P : PV → Store → Prop} {S : Store} {a b : Bool} (h : P (.bl a) S) (e : a = b) : P (.bl b) S := e ▸ h
theorem len2 {r : List PV} : ((((r.length + 1 : Nat) : Int)) == 2) = decide (r.length = 1) := by
  rw [Bool.eq_iff_iff, beq_iff_eq, decide_eq_true_eq]; omega
theorem len3 {r : List PV} : ((((r.length + 1 : Nat) : Int)) == 3) = decide (r.length = 2) := by
  rw [Bool.eq_iff_iff, beq_iff_eq, decide_eq_true_eq]; omega
theorem one_ne {f : PV → Bool} {r : List PV} (h : r.length ≠ 1) : one f r = false := by
  match r, h with
  | [], _ => rfl
  | _ :: _ :: _, _ => rfl
theorem two_ne {w : Sy} {k : Int} {r : List PV} (h : r.length ≠ 2) : two w k r = false := by
  match r, h with
  | [], _ => rfl
  | [_], _ => rfl
  | _ :: _ :: _ :: _, _ => rfl
section
variable {n s : Nat} {S : Store} {P : PV → Store → Prop} {E : Exn → Store → Prop} {v : PV}
theorem whole_spec (hv : okv s S v) (hP : P (.bl (isWhole v)) S) : Wq (callF tab (n + 1) 0 [v] S) P E := by
  refine Wq_call tab_is_whole rfl ?_
  simp only [f_is_whole, b_is_whole, startEnv, List.map_cons, List.map_nil, List.length_cons, List.length_nil, List.replicate, List.cons_append, List.nil_append]
  walk_at "e"
  simp only [Yq_ok hv]
  cases v <;> walk_at "e" <;> exact hP
theorem count_spec (hv : okv s S v) (hP : P (.bl (inR 0 1000000000 v)) S) : Wq (callF tab (n + 2) 2 [v] S) P E := by
  refine Wq_call tab_is_count rfl ?_
  simp only [f_is_count, b_is_count, startEnv, List.map_cons, List.map_nil, List.length_cons, List.length_nil, List.replicate, List.cons_append, List.nil_append]
  walk_at "e"
  refine whole_spec hv ?_
  cases v <;> simp only [isWhole] <;> walk_at "e" <;> simp only [inR] at hP
  case int =>
    walk_at "b" <;> simp_all
  all_goals exact hP
theorem atom_spec (hv : okv s S v) (hP : ∀ S', Grow S S' → P (.bl (atomP v)) S') : Wq (callF tab (n + 1) 1 [v] S) P E := by
  refine Wq_call tab_is_atom rfl ?_
  simp only [f_is_atom, b_is_atom, startEnv, List.map_cons, List.map_nil, List.length_cons, List.length_nil, List.replicate, List.cons_append, List.nil_append]
  walk_at "e"
  simp only [Yq_ok hv]
  have hg := hP S (Grow.refl S)
  cases v with
  | str x =>
    have hz : x.length ≤ nsz := hv
    walk_at "e"
    simp only [u_lenS hz, Iq_S hz]
    walk_at "e"
    cases x with
    | nil =>
      refine Br_d (fun h => absurd h (by simp only [List.length_nil]; omega)) (fun _ => ?_)
      walk_at "e"
      exact hg
    | cons c r =>
      refine Br_d (fun h1 => ?_) (fun h1 => absurd h1 (by simp only [List.length_cons]; omega))
      walk_at "e"
      refine Br_d (fun h2 => ?_) (fun h2 => ?_)
      · walk_at "e"
        simp only [Iq_S hz]
        walk_at "e"
        refine Br_i (fun h3 => ?_) (fun h3 => ?_)
        · walk_at "e"
          refine lc_all (xs := (c :: r).map fun c => .str [c]) (fun x => match x with | .str [c] => z_abcdefghijklmnopqrstuvwxyz.elem c || z_0123456789.elem c | _ => false) _ nx_str (by simp [wipe]) ?_ (by simp only [List.length_map, List.length_cons, nsz]; omega) ?_ ?_
          · simp only [List.length_map, List.length_cons, cxF_T]
            show _ < 1000000
            omega
          · intro x S' hx g
            obtain ⟨d, hd, rfl⟩ := List.mem_map.mp hx
            simp only [wipe_1, List.set_cons_succ, List.set_cons_zero]
            walk_at "e"
            refine Br_i (fun h => ?_) (fun h => ?_) <;> walk_at "e" <;> exact ⟨Grow.refl _, by rw [h]; rfl⟩
          · intro S' g
            have := hP S' g
            simp only [atomP, h3, List.length_cons, List.all_map] at this ⊢
            rw [decide_eq_true (by omega), decide_eq_true (by omega)] at this
            exact this
        · walk_at "e"
          simp only [atomP, h3, Bool.and_false, Bool.false_and] at hg
          exact hg
      · walk_at "e"
        simp only [atomP, List.length_cons, decide_eq_false (show ¬ r.length + 1 ≤ 12 by omega), Bool.and_false, Bool.false_and] at hg
        exact hg
  | _ =>
    walk_at "e"
    exact hg
theorem node_spec {k : Int} (hv : okv s S v) (hP : ∀ S', Grow S S' → P (.bl (nodeP v k)) S') : Wq (callF tab (n + 3) 3 [v, .int k] S) P E := by
  refine Wq_call tab_is_node rfl ?_
  simp only [f_is_node, b_is_node, startEnv, List.map_cons, List.map_nil, List.length_cons, List.length_nil, List.replicate, List.cons_append, List.nil_append]
  walk_at "e"
  simp only [Yq_ok hv]
  have hg := hP S (Grow.refl S)
  cases v with
  | tup xs =>
    cases xs with
    | nil =>
      walk_at "e"
      exact hg
    | cons w r =>
      walk_at "e"
      simp only [Yq_ok hv.1]
      cases w with
      | str w =>
        walk_at "e"
        refine Br_i (fun h1 => ?_) (fun h1 => ?_)
        · walk_at "e"
          simp only [len2]
          simp only [nodeP, h1, cond_true] at hP hg
          match r, hv with
          | [x], hv =>
            walk_at "e"
            refine Br_i (fun h => ?_) (fun h => ?_)
            · walk_at "e"
              exact count_spec hv.2.1 hg
            · simp at h
          | [], _ => exact hg
          | _ :: _ :: _, _ =>
            rw [decide_eq_false (by simp only [List.length_cons]; omega), Br_f]
            walk_at "e"
            exact hg
        · walk_at "e"
          simp only [nodeP, h1, cond_false] at hP hg
          refine Br_i (fun h2 => ?_) (fun h2 => ?_)
          · walk_at "e"
            simp only [len2]
            simp only [h2, cond_true] at hP hg
            match r, hv with
            | [x], hv =>
              walk_at "e"
              refine Br_i (fun h => ?_) (fun h => ?_)
              · walk_at "e"
                refine whole_spec hv.2.1 ?_
                cases x <;> simp only [isWhole] <;> walk_at "e"
                case int i =>
                  refine fin hg ?_
                  simp only [one, inR]
                  rw [Bool.eq_iff_iff, Bool.and_eq_true, decide_eq_true_eq, decide_eq_true_eq, decide_eq_true_eq]
                  split <;> omega
                all_goals exact hg
              · simp at h
            | [], _ => exact hg
            | _ :: _ :: _, _ =>
              rw [decide_eq_false (by simp only [List.length_cons]; omega), Br_f]
              walk_at "e"
              exact hg
          · walk_at "e"
            simp only [h2, cond_false] at hP hg
            refine Br_i (fun h3 => ?_) (fun h3 => ?_)
            · walk_at "e"
              simp only [len2]
              simp only [h3, cond_true] at hP hg
              match r, hv with
              | [x], hv =>
                walk_at "e"
                refine Br_i (fun h => ?_) (fun h => ?_)
                · walk_at "e"
                  exact atom_spec hv.2.1 hP
                · simp at h
              | [], _ => exact hg
              | _ :: _ :: _, _ =>
                rw [decide_eq_false (by simp only [List.length_cons]; omega), Br_f]
                walk_at "e"
                exact hg
            · walk_at "e"
              simp only [len3]
              simp only [h3, cond_false] at hP hg
              by_cases hr : r.length = 2
              · rw [decide_eq_true hr, Br_t]
                match r, hr, hv with
                | [x, y], _, hv =>
                  walk_at "e"
                  refine atom_spec hv.2.1 fun S1 g1 => ?_
                  walk_at "e"
                  have hy := okv.grow hv.2.2.1 g1
                  have hg1 := hP S1 g1
                  simp only [two] at hP hg1
                  refine Br_i (fun h4 => ?_) (fun h4 => ?_)
                  · walk_at "e"
                    simp only [h4, Bool.true_and] at hP hg1
                    refine Br_i (fun h5 => ?_) (fun h5 => ?_)
                    · walk_at "e"
                      simp only [h5, cond_true] at hg1
                      exact count_spec hy hg1
                    · walk_at "e"
                      simp only [h5, cond_false] at hP hg1
                      refine Br_i (fun h6 => ?_) (fun h6 => ?_)
                      · walk_at "e"
                        simp only [h6, Bool.true_and] at hP hg1
                        simp only [Yq_ok hy]
                        cases y with
                        | tup ps =>
                          walk_at "e"
                          refine Br_d (fun h7 => ?_) (fun h7 => ?_)
                          · walk_at "e"
                            refine Br_d (fun h8 => ?_) (fun h8 => ?_)
                            · walk_at "e"
                              refine lc_all (xs := ps) (inR 0 (k - 1)) _ nx_seq (by simp [wipe]) ?_ (by simp only [nsz]; omega) ?_ ?_
                              · simp only [cxF_T]
                                show _ < 1000000
                                omega
                              · intro x S' hx g
                                have hx' := (okvs_iff.mp hy x hx).grow g
                                simp only [wipe_1, List.set_cons_succ, List.set_cons_zero]
                                walk_at "e"
                                refine whole_spec hx' ?_
                                cases x <;> simp only [isWhole] <;> walk_at "e"
                                case int i =>
                                  refine Br_d (fun h => ?_) (fun h => ?_) <;> walk_at "e" <;> refine ⟨Grow.refl _, ?_⟩
                                  · simp only [inR, decide_eq_true h, Bool.true_and, PV.bl.injEq]
                                    rw [Bool.eq_iff_iff, decide_eq_true_eq, decide_eq_true_eq]
                                    omega
                                  · simp only [inR, decide_eq_false h, Bool.false_and]
                                all_goals exact ⟨Grow.refl _, rfl⟩
                              · intro S' g
                                refine fin (hP _ (g1.trans g)) ?_
                                simp only [partsP]
                                rw [decide_eq_true (by omega), decide_eq_true (by omega)]
                                rfl
                            · walk_at "e"
                              refine fin hg1 ?_
                              simp only [partsP]
                              rw [decide_eq_false (p := ps.length ≤ 6) (by omega)]
                              simp only [Bool.and_false, Bool.false_and]
                          · walk_at "e"
                            refine fin hg1 ?_
                            simp only [partsP]
                            rw [decide_eq_false (p := 1 ≤ ps.length) (by omega)]
                            simp only [Bool.and_false, Bool.false_and]
                        | _ =>
                          walk_at "e"
                          exact hg1
                      · walk_at "e"
                        simp only [h6, Bool.false_and] at hg1
                        exact hg1
                  · walk_at "e"
                    simp only [h4, Bool.false_and] at hg1
                    exact hg1
              · rw [decide_eq_false hr, Br_f]
                walk_at "e"
                rw [two_ne hr] at hg
                exact hg
      | _ =>
        walk_at "e"
        exact hg
  | _ =>
    walk_at "e"
    exact hg
def graphP : PV → Bool
  | .tup ns => decide (1 ≤ ns.length) && decide (ns.length ≤ 400) && ns.all fun v => nodeP v ns.length
  | _ => false
theorem graph_spec (hv : okv s S v) (hP : ∀ S', Grow S S' → P (.bl (graphP v)) S') : Wq (callF tab (n + 4) 4 [v] S) P E := by
  refine Wq_call tab_is_graph rfl ?_
  simp only [f_is_graph, b_is_graph, startEnv, List.map_cons, List.map_nil, List.length_cons, List.length_nil, List.replicate, List.cons_append, List.nil_append]
  walk_at "e"
  simp only [Yq_ok hv]
  have hg := hP S (Grow.refl S)
  cases v with
  | tup ps =>
    walk_at "e"
    refine Br_d (fun h7 => ?_) (fun h7 => ?_)
    · walk_at "e"
      refine Br_d (fun h8 => ?_) (fun h8 => ?_)
      · walk_at "e"
        refine lc_all (xs := ps) (fun v => nodeP v ps.length) _ nx_seq (by simp [wipe]) ?_ (by simp only [nsz]; omega) ?_ ?_
        · simp only [cxF_T]
          show _ < 1000000
          omega
        · intro x S' hx g
          have hx' := (okvs_iff.mp hv x hx).grow g
          simp only [wipe_1, List.set_cons_succ, List.set_cons_zero]
          walk_at "e"
          exact node_spec hx' fun S2 g2 => ⟨g2, rfl⟩
        · intro S' g
          refine fin (hP _ g) ?_
          simp only [graphP]
          rw [decide_eq_true (by omega), decide_eq_true (by omega)]
          rfl
      · walk_at "e"
        refine fin hg ?_
        simp only [graphP]
        rw [decide_eq_false (p := ps.length ≤ 400) (by omega)]
        simp only [Bool.and_false, Bool.false_and]
    · walk_at "e"
      refine fin hg ?_
      simp only [graphP]
      rw [decide_eq_false (p := 1 ≤ ps.length) (by omega)]
      simp only [Bool.and_false, Bool.false_and]
  | _ =>
    walk_at "e"
    exact hg
theorem lnum_spec {lo hi : Int} (hv : okv s S v) (hP : P (.bl (inR lo hi v)) S) : Wq (callF tab (n + 1) 11 [v, .int lo, .int hi] S) P E := by
  refine Wq_call tab__law_is_number rfl ?_
  simp only [f__law_is_number, b__law_is_number, startEnv, List.map_cons, List.map_nil, List.length_cons, List.length_nil, List.replicate, List.cons_append, List.nil_append]
  walk_at "e"
  simp only [Yq_ok hv]
  cases v <;> walk_at "e"
  case int i =>
    simp only [inR] at hP
    refine Br_d (fun h => ?_) (fun h => ?_) <;> walk_at "e"
    · simpa [h] using hP
    · simpa [h] using hP
  all_goals first | exact hP | (simp only [Yq_ok hv]; walk_at "e"; exact hP)
theorem latom_spec (hv : okv s S v) (hP : ∀ S', Grow S S' → P (.bl (atomP v)) S') : Wq (callF tab (n + 1) 12 [v] S) P E := by
  refine Wq_call tab__law_is_atom rfl ?_
  simp only [f__law_is_atom, b__law_is_atom, startEnv, List.map_cons, List.map_nil, List.length_cons, List.length_nil, List.replicate, List.cons_append, List.nil_append]
  walk_at "e"
  simp only [Yq_ok hv]
  have hg := hP S (Grow.refl S)
  cases v with
  | str x =>
    have hz : x.length ≤ nsz := hv
    walk_at "e"
    simp only [u_lenS hz, Iq_S hz]
    walk_at "e"
    cases x with
    | nil =>
      refine Br_d (fun h => absurd h (by simp only [List.length_nil]; omega)) (fun _ => ?_)
      walk_at "e"
      exact hg
    | cons c r =>
      refine Br_d (fun h1 => ?_) (fun h1 => absurd h1 (by simp only [List.length_cons]; omega))
      walk_at "e"
      refine Br_d (fun h2 => ?_) (fun h2 => ?_)
      · walk_at "e"
        simp only [Iq_S hz]
        walk_at "e"
        refine Br_i (fun h3 => ?_) (fun h3 => ?_)
        · walk_at "e"
          refine lc_all (xs := (c :: r).map fun c => .str [c]) (fun x => match x with | .str [c] => z_abcdefghijklmnopqrstuvwxyz.elem c || z_0123456789.elem c | _ => false) _ nx_str (by simp [wipe]) ?_ (by simp only [List.length_map, List.length_cons, nsz]; omega) ?_ ?_
          · simp only [List.length_map, List.length_cons, cxF_T]
            show _ < 1000000
            omega
          · intro x S' hx g
            obtain ⟨d, hd, rfl⟩ := List.mem_map.mp hx
            simp only [wipe_1, List.set_cons_succ, List.set_cons_zero]
            walk_at "e"
            simp only [o_adds]
            refine ⟨by decide, ?_⟩
            walk_at "e"
            exact ⟨Grow.refl _, congrArg PV.bl (elem_app (a := z_abcdefghijklmnopqrstuvwxyz) (b := z_0123456789) (d := d))⟩
          · intro S' g
            have := hP S' g
            simp only [atomP, h3, List.length_cons, List.all_map] at this ⊢
            rw [decide_eq_true (by omega), decide_eq_true (by omega)] at this
            exact this
        · walk_at "e"
          simp only [atomP, h3, Bool.and_false, Bool.false_and] at hg
          exact hg
      · walk_at "e"
        simp only [atomP, List.length_cons, decide_eq_false (show ¬ r.length + 1 ≤ 12 by omega), Bool.and_false, Bool.false_and] at hg
        exact hg
  | _ =>
    walk_at "e"
    exact hg
theorem lnode_spec {k : Int} (hv : okv s S v) (hP : ∀ S', Grow S S' → P (.bl (nodeP v k)) S') : Wq (callF tab (n + 3) 13 [v, .int k] S) P E := by
  refine Wq_call tab__law_is_node rfl ?_
  simp only [f__law_is_node, b__law_is_node, startEnv, List.map_cons, List.map_nil, List.length_cons, List.length_nil, List.replicate, List.cons_append, List.nil_append]
  walk_at "e"
  simp only [Yq_ok hv]
  have hg := hP S (Grow.refl S)
  cases v with
  | tup xs =>
    match xs, hv with
    | [], hv =>
      walk_at "e"
      refine Br_d (fun _ => ?_) (fun h => absurd h (by simp))
      walk_at "e"
      exact hg
    | [w], hv =>
      walk_at "e"
      refine Br_d (fun _ => ?_) (fun h => absurd h (by simp))
      walk_at "e"
      refine fin hg ?_
      cases w <;> simp [nodeP, one, two]
    | w :: x :: r, hv =>
      walk_at "e"
      refine Br_d (fun h => absurd h (by omega)) (fun _ => ?_)
      walk_at "e"
      simp only [Yq_ok hv.1]
      cases w with
      | str w =>
        walk_at "e"
        refine Br_i (fun h1 => ?_) (fun h1 => ?_)
        · walk_at "e"
          simp only [nodeP, h1, cond_true] at hP hg
          match r, hv with
          | [], hv =>
            refine Br_e (fun _ => ?_) (fun h => absurd rfl h)
            walk_at "e"
            exact lnum_spec hv.2.1 hg
          | _ :: _, _ =>
            refine Br_e (fun h => absurd h (by simp only [List.length_cons]; omega)) (fun h => ?_)
            walk_at "e"
            exact fin hg (beq_false_of_ne (by omega)).symm
        · walk_at "e"
          simp only [nodeP, h1, cond_false] at hP hg
          refine Br_i (fun h2 => ?_) (fun h2 => ?_)
          · walk_at "e"
            simp only [h2, cond_true] at hP hg
            match r, hv with
            | [], hv =>
              refine Br_e (fun _ => ?_) (fun h => absurd rfl h)
              walk_at "e"
              exact lnum_spec hv.2.1 hg
            | _ :: _, _ =>
              refine Br_e (fun h => absurd h (by simp only [List.length_cons]; omega)) (fun h => ?_)
              walk_at "e"
              exact fin hg (beq_false_of_ne (by omega)).symm
          · walk_at "e"
            simp only [h2, cond_false] at hP hg
            refine Br_i (fun h3 => ?_) (fun h3 => ?_)
            · walk_at "e"
              simp only [h3, cond_true] at hP hg
              match r, hv with
              | [], hv =>
                refine Br_e (fun _ => ?_) (fun h => absurd rfl h)
                walk_at "e"
                exact latom_spec hv.2.1 hP
              | _ :: _, _ =>
                refine Br_e (fun h => absurd h (by simp only [List.length_cons]; omega)) (fun h => ?_)
                walk_at "e"
                exact fin hg (beq_false_of_ne (by omega)).symm
            · walk_at "e"
              simp only [h3, cond_false] at hP hg
              match r, hv with
              | [], hv =>
                refine Br_e (fun h => absurd h (by decide)) (fun _ => ?_)
                walk_at "e"
                exact hg
              | _ :: _ :: _, _ =>
                refine Br_e (fun h => absurd h (by simp only [List.length_cons]; omega)) (fun _ => ?_)
                walk_at "e"
                exact hg
              | [y], hv =>
                refine Br_e (fun _ => ?_) (fun h => absurd rfl h)
                walk_at "e"
                refine latom_spec hv.2.1 fun S1 g1 => ?_
                walk_at "e"
                have hy := okv.grow hv.2.2.1 g1
                have hg1 := hP S1 g1
                simp only [two] at hP hg1
                refine Br_i (fun h4 => ?_) (fun h4 => ?_)
                · walk_at "e"
                  simp only [h4, Bool.true_and] at hP hg1
                  refine Br_i (fun h5 => ?_) (fun h5 => ?_)
                  · walk_at "e"
                    simp only [h5, cond_true] at hg1
                    exact lnum_spec hy hg1
                  · walk_at "e"
                    simp only [h5, cond_false] at hP hg1
                    refine Br_i (fun h6 => ?_) (fun h6 => ?_)
                    · walk_at "e"
                      simp only [h6, Bool.true_and] at hP hg1
                      simp only [Yq_ok hy]
                      cases y with
                      | tup ps =>
                        walk_at "e"
                        refine Br_d (fun h7 => ?_) (fun h7 => ?_)
                        · walk_at "e"
                          refine Br_d (fun h8 => ?_) (fun h8 => ?_)
                          · walk_at "e"
                            refine lc_all (xs := ps) (inR 0 (k - 1)) _ nx_seq (by simp [wipe]) ?_ (by simp only [nsz]; omega) ?_ ?_
                            · simp only [cxF_T]
                              show _ < 1000000
                              omega
                            · intro x S' hx g
                              have hx' := (okvs_iff.mp hy x hx).grow g
                              simp only [wipe_1, List.set_cons_succ, List.set_cons_zero]
                              walk_at "e"
                              exact lnum_spec hx' ⟨Grow.refl _, rfl⟩
                            · intro S' g
                              refine fin (hP _ (g1.trans g)) ?_
                              simp only [partsP]
                              rw [decide_eq_true (by omega), decide_eq_true (by omega)]
                              rfl
                          · walk_at "e"
                            refine fin hg1 ?_
                            simp only [partsP]
                            rw [decide_eq_false (p := ps.length ≤ 6) (by omega)]
                            simp only [Bool.and_false, Bool.false_and]
                        · walk_at "e"
                          refine fin hg1 ?_
                          simp only [partsP]
                          rw [decide_eq_false (p := 1 ≤ ps.length) (by omega)]
                          simp only [Bool.and_false, Bool.false_and]
                      | _ =>
                        walk_at "e"
                        exact hg1
                    · walk_at "e"
                      simp only [h6, Bool.false_and] at hg1
                      exact hg1
                · walk_at "e"
                  simp only [h4, Bool.false_and] at hg1
                  exact hg1
      | _ =>
        walk_at "e"
        exact hg
  | _ =>
    walk_at "e"
    exact hg
theorem due_spec (hv : okv s S v) (hP : ∀ S', Grow S S' → P (.bl (graphP v)) S') : Wq (callF tab (n + 4) 14 [v] S) P E := by
  refine Wq_call tab__law_due rfl ?_
  simp only [f__law_due, b__law_due, startEnv, List.map_cons, List.map_nil, List.length_cons, List.length_nil, List.replicate, List.cons_append, List.nil_append]
  walk_at "e"
  simp only [Yq_ok hv]
  have hg := hP S (Grow.refl S)
  cases v with
  | tup ps =>
    walk_at "e"
    refine Br_d (fun h7 => ?_) (fun h7 => ?_)
    · walk_at "e"
      refine Br_d (fun h8 => ?_) (fun h8 => ?_)
      · walk_at "e"
        refine lc_all (xs := ps) (fun v => nodeP v ps.length) _ nx_seq (by simp [wipe]) ?_ (by simp only [nsz]; omega) ?_ ?_
        · simp only [cxF_T]
          show _ < 1000000
          omega
        · intro x S' hx g
          have hx' := (okvs_iff.mp hv x hx).grow g
          simp only [wipe_1, List.set_cons_succ, List.set_cons_zero]
          walk_at "e"
          exact lnode_spec hx' fun S2 g2 => ⟨g2, rfl⟩
        · intro S' g
          refine fin (hP _ g) ?_
          simp only [graphP]
          rw [decide_eq_true (by omega), decide_eq_true (by omega)]
          rfl
      · walk_at "e"
        refine fin hg ?_
        simp only [graphP]
        rw [decide_eq_false (p := ps.length ≤ 400) (by omega)]
        simp only [Bool.and_false, Bool.false_and]
    · walk_at "e"
      refine fin hg ?_
      simp only [graphP]
      rw [decide_eq_false (p := 1 ≤ ps.length) (by omega)]
      simp only [Bool.and_false, Bool.false_and]
  | _ =>
    walk_at "e"
    exact hg
end
end LD
set_option maxRecDepth 100000
namespace LD
open L3
local macro_rules | `(tactic| walk_at "e") => `(tactic| try simp -dsimp only [↓y_cons, ↓y_if, ↓W_asub, ↓W_rt, ↓W_ex, ↓W_fr, ↓W_lc, ↓W_pass, ↓W_brk, ↓W_cnt, ↓W_retn, ↓W_nil, ↓nxt_nx, ↓nxt_rt, ↓nxt_bk, ↓nxt_ct, ↓retK_rt, ↓retK_nx, ↓e_con, ↓e_glo, ↓e_tup, ↓e_lst, ↓e_bin, ↓e_negi, ↓e_nt, ↓T_idx, ↓T_cal, ↓T_bf, ↓T_bin, ↓T_tup, ↓T_fld, ↓T_mth, ↓T_ife, ↓T_var, ↓T_glo, ↓T_con, ↓T_cmp, ↓T_chn, ↓T_isi, ↓T_nt, ↓T_and, ↓T_or, ↓e_and, ↓e_or, ↓e_ife, ↓e_cmp, ↓e_chn, ↓e_idx, ↓e_slc, ↓e_fld, ↓e_cal, ↓e_mth, ↓e_bf1, ↓e_bf, ↓e_isi, ↓es_nil, ↓es_cons, ↓eo_no, ↓i_seq, ↓q_tup, ↓q_rol, ↓q_str, ↓o_addi, ↓o_subi, ↓o_p9, ↓o_slct, ↓u_lenT, ↓u_lenC, ↓u_int, ↓u_abs, ↓u_max, ↓u_min, ↓u_tupT, ↓u_lstT, ↓u_lstC, ↓Br_t, ↓Br_f, ↓Br_n, ↓Tq_bl, ↓Tq_int, ↓Tq_tup, ↓Tq_rol, ↓Tq_non, ↓Gq_s, ↓Yq_non, ↓Yq_bl, ↓Yq_int, ↓Yq_str, ↓Yq_tup, ↓Yq_rol, ↓Cq_isnn, ↓Cq_isN, ↓Iq_T, ↓Iq_C, ↓Cq_eqi, ↓Cq_nei, ↓Cq_eqs, ↓Cq_nes, ↓Cq_eqb, ↓Cq_neb, ↓Cq_lti, ↓Cq_lei, ↓Cq_gti, ↓Cq_gei, ↓Cq_isb, ↓Cq_isnb, ↓Cq_lts, ↓Cq_inn1, ↓Cq_nin1, ↓v_0, ↓n_0, ↓g_0, ↓t_0, ↓v_1, ↓n_1, ↓g_1, ↓t_1, ↓v_2, ↓n_2, ↓g_2, ↓t_2, ↓v_3, ↓n_3, ↓g_3, ↓t_3, ↓v_4, ↓n_4, ↓g_4, ↓t_4, ↓v_5, ↓n_5, ↓g_5, ↓t_5, ↓v_6, ↓n_6, ↓g_6, ↓t_6, ↓v_7, ↓n_7, ↓g_7, ↓t_7, ↓v_8, ↓n_8, ↓g_8, ↓t_8, ↓v_9, ↓n_9, ↓g_9, ↓t_9, ↓v_10, ↓n_10, ↓g_10, ↓t_10, ↓v_11, ↓n_11, ↓g_11, ↓t_11, ↓v_12, ↓n_12, ↓g_12, ↓t_12, ↓v_13, ↓n_13, ↓g_13, ↓t_13, Br_t, Br_f, Br_n, Tq_bl, Tq_int, Tq_tup, Tq_rol, Tq_non, Gq_s, Yq_non, Yq_bl, Yq_int, Yq_str, Yq_tup, Yq_rol, Cq_isnn, Cq_isN, Iq_T, Iq_C, Cq_eqi, Cq_nei, Cq_eqs, Cq_nes, Cq_eqb, Cq_neb, Cq_lti, Cq_lei, Cq_gti, Cq_gei, Cq_isb, Cq_isnb, Cq_lts, Cq_inn1, Cq_nin1, e_neg, eo_ex, i_rng, i_rng2, y_aug, at_0, at_1, at_2, at_3, cxF_T, cxF_call, Bool.not_true, Bool.not_false, Bool.false_eq_true, if_true, if_false, tyB, PV.int.injEq, exists_eq_left, exists_eq_left', List.isEmpty_nil, List.isEmpty_cons, List.length_cons, List.length_nil, List.map_cons, List.map_nil, Option.map_some, startEnv, List.replicate, List.cons_append, List.nil_append, PV.int.injEq, glob_MOST_NODES, glob_MOST_PARTS, glob_MOST_ATOM, glob_MOST_NUMBER, glob_SMALL, glob_DIGITS, g_MOST_NODES, g_MOST_PARTS, g_MOST_ATOM, g_MOST_NUMBER, g_SMALL, g_DIGITS])
local macro_rules | `(tactic| walk_at "b") => `(tactic| first | (refine Br_d (fun h => ?_) (fun h => ?_) <;> walk_at "e") | (refine Br_e (fun h => ?_) (fun h => ?_) <;> walk_at "e") | (refine Br_i (fun h => ?_) (fun h => ?_) <;> walk_at "e"))
section
variable {n s : Nat} {S : Store} {P : PV → Store → Prop} {E : Exn → Store → Prop} {v : PV}
theorem d_ev {many : Int} (hs : Strm S s) (h0 : 0 < many) (h1 : many < 1073741824) (hP : ∀ r S', 0 ≤ r → r < many → Ev s S S' → P (.int r) S') : Wq (callF tab (n + 1) 6 [.ref s, .int many] S) P E := draw_ev rfl hs h0 h1 hP
theorem far_spec (hs : Strm S s) (hP : ∀ i S', 0 ≤ i → i ≤ 1000000000 → Ev s S S' → P (.int i) S') : Wq (callF tab (n + 2) 7 [.ref s] S) P E := by
  refine Wq_call tab__law_far rfl ?_
  simp only [f__law_far, b__law_far, startEnv, List.map_cons, List.map_nil, List.length_cons, List.length_nil, List.replicate, List.cons_append, List.nil_append]
  walk_at "e"
  refine d_ev hs (by decide) (by decide) fun r S1 r0 r1 e1 => ?_
  walk_at "e"
  refine Br_d (fun h => ?_) (fun h => ?_)
  · walk_at "e"
    exact d_ev e1.st (by decide) (by decide) fun r S2 r0 r1 e2 => hP r S2 r0 (by omega) (e1.trans e2)
  · walk_at "e"
    refine d_ev e1.st (by decide) (by decide) fun m S2 m0 m1 e2 => ?_
    walk_at "e"
    refine ⟨by decide, ?_⟩
    refine d_ev (e2.push (Z := [_])).st (by decide) (by decide) fun k S3 k0 k1 e3 => ?_
    walk_at "e"
    refine Iq_mem (e2.fresh e3) k0 k1 ?_
    have e := ((e1.trans e2).push (Z := [.lst [PV.int 10, .int 12, .int 1000000000, .int m]])).trans e3
    simp only [List.forall_mem_cons, List.not_mem_nil, false_implies, implies_true, and_true]
    exact ⟨hP _ _ (by decide) (by decide) e, hP _ _ (by decide) (by decide) e, hP _ _ (by decide) (by decide) e, hP _ _ m0 (by omega) e⟩
theorem atom_app {x : Sy} {c : Nat} (h : atomP (.str x) = true) (hl : x.length ≤ 11) (hc : (z_abcdefghijklmnopqrstuvwxyz.elem c || z_0123456789.elem c) = true) : atomP (.str (x ++ [c])) = true := by
  simp only [atomP, Bool.and_eq_true, decide_eq_true_eq] at h ⊢
  obtain ⟨⟨⟨h1, h2⟩, h3⟩, h4⟩ := h
  refine ⟨⟨⟨by simp, by simp; omega⟩, ?_⟩, ?_⟩
  · cases x with
    | nil => simp at h1
    | cons a r => exact h3
  · rw [List.all_append, h4]
    simpa using hc
theorem gatom_spec (hs : Strm S s) (hP : ∀ x S', atomP (.str x) = true → x.length ≤ 12 → Ev s S S' → P (.str x) S') : Wq (callF tab (n + 2) 8 [.ref s] S) P E := by
  refine Wq_call tab__law_atom rfl ?_
  simp only [f__law_atom, b__law_atom, startEnv, List.map_cons, List.map_nil, List.length_cons, List.length_nil, List.replicate, List.cons_append, List.nil_append]
  walk_at "e"
  refine d_ev hs (by decide) (by decide) fun r S1 r0 r1 e1 => ?_
  walk_at "e"
  refine Br_d (fun h => ?_) (fun h => ?_)
  · walk_at "e"
    refine ⟨by decide, ?_⟩
    refine d_ev (e1.push (Z := [_])).st (by decide) (by decide) fun k S3 k0 k1 e3 => ?_
    walk_at "e"
    refine Iq_mem (e1.fresh e3) k0 k1 ?_
    have e := (e1.push (Z := [.lst [PV.str z_a, .str z_b, .str z_nil, .str z_x1, .str z_abcdefghijkl]])).trans e3
    simp only [List.forall_mem_cons, List.not_mem_nil, false_implies, implies_true, and_true]
    exact ⟨hP _ _ (by decide) (by decide) e, hP _ _ (by decide) (by decide) e, hP _ _ (by decide) (by decide) e, hP _ _ (by decide) (by decide) e, hP _ _ (by decide) (by decide) e⟩
  · walk_at "e"
    refine d_ev e1.st (by decide) (by decide) fun m S2 m0 m1 e2 => ?_
    walk_at "e"
    refine Iq_memS (by decide) m0 m1 fun c hc => ?_
    walk_at "e"
    have ha : atomP (.str [c]) = true := by
      simp only [List.mem_cons, List.not_mem_nil, or_false] at hc
      rcases hc with rfl | rfl | rfl <;> decide
    refine d_ev e2.st (by decide) (by decide) fun k S3 k0 k1 e3 => ?_
    walk_at "e"
    refine ⟨by simp only [W62]; omega, ?_⟩
    refine Lp_I k.toNat (fun i ρ S' => ∃ x last, ρ = [some (.ref s), some (.str x), last] ∧ Ev s S S' ∧ atomP (.str x) = true ∧ x.length ≤ 1 + i) ⟨[c], none, rfl, e1.trans (e2.trans e3), ha, by simp⟩ (by show _ < 1000000; omega) ?_
    rintro i ρ S4 ⟨x, last, rfl, e4, hx, hl⟩ hi
    refine ⟨fun hlt => ⟨.int (i : Nat), by simp [ItV.next, hlt], ?_⟩, fun he => ⟨by simp [ItV.next, he], ?_⟩⟩
    · walk_at "e"
      refine d_ev e4.st (by decide) (by decide) fun m S5 m0 m1 e5 => ?_
      walk_at "e"
      refine Iq_memS (by decide) m0 m1 fun d hd => ?_
      simp only [o_adds]
      refine ⟨by simp only [List.length_cons, List.length_nil, nsz]; omega, ?_⟩
      walk_at "e"
      refine ⟨_, _, rfl, e4.trans e5, atom_app hx (by omega) ?_, by simp; omega⟩
      simp only [List.mem_cons, List.not_mem_nil, or_false] at hd
      rcases hd with rfl | rfl | rfl | rfl | rfl | rfl <;> decide
    · walk_at "e"
      exact hP _ _ hx (by omega) e4
theorem gnode_spec {many : Int} (hs : Strm S s) (h0 : 0 < many) (h1 : many < 1000) (hP : ∀ v S', nodeP v many = true → okv s S' v → Ev s S S' → P v S') : Wq (callF tab (n + 3) 9 [.ref s, .int many] S) P E := by
  refine Wq_call tab__law_node rfl ?_
  simp only [f__law_node, b__law_node, startEnv, List.map_cons, List.map_nil, List.length_cons, List.length_nil, List.replicate, List.cons_append, List.nil_append]
  walk_at "e"
  refine d_ev hs (by decide) (by decide) fun r S1 r0 r1 e1 => ?_
  walk_at "e"
  refine Br_e (fun h => ?_) (fun h => ?_)
  · walk_at "e"
    refine far_spec e1.st fun i S2 i0 i1 e2 => ?_
    walk_at "e"
    refine ⟨by decide, ?_⟩
    refine hP _ _ ?_ ?_ (e1.trans e2)
    · simp [nodeP, one, inR, i0, i1]
    · simp [okv, okvs, nsz]
  walk_at "e"
  refine Br_e (fun h => ?_) (fun h => ?_)
  · walk_at "e"
    refine ⟨by decide, ?_⟩
    refine d_ev (e1.push (Z := [_])).st (by decide) (by decide) fun k S3 k0 k1 e3 => ?_
    walk_at "e"
    refine Iq_mem (e1.fresh e3) k0 k1 fun x hx => ?_
    walk_at "e"
    refine ⟨by decide, ?_⟩
    simp only [List.mem_cons, List.not_mem_nil, or_false] at hx
    refine hP _ _ ?_ ?_ (e1.push.trans e3)
    · rcases hx with rfl | rfl | rfl | rfl | rfl | rfl | rfl <;> rfl
    · rcases hx with rfl | rfl | rfl | rfl | rfl | rfl | rfl <;> simp [okv, okvs, nsz]
  walk_at "e"
  refine Br_e (fun h => ?_) (fun h => ?_)
  · walk_at "e"
    refine gatom_spec e1.st fun x S2 i0 i1 e2 => ?_
    walk_at "e"
    refine ⟨by decide, ?_⟩
    refine hP _ _ ?_ ?_ (e1.trans e2)
    · simp [nodeP, one, i0]
    · simp only [okv, okvs, nsz, List.length_cons, List.length_nil, and_true]
      omega
  walk_at "e"
  refine Br_e (fun h => ?_) (fun h => ?_)
  · walk_at "e"
    refine gatom_spec e1.st fun x S2 i0 i1 e2 => ?_
    walk_at "e"
    refine far_spec e2.st fun i S3 i2 i3 e3 => ?_
    walk_at "e"
    refine ⟨by decide, ?_⟩
    refine hP _ _ ?_ ?_ (e1.trans (e2.trans e3))
    · simp [nodeP, two, i0, inR, i2, i3]
    · simp only [okv, okvs, nsz, List.length_cons, List.length_nil, and_true]
      omega
  walk_at "e"
  refine ⟨by decide, ?_⟩
  refine d_ev (e1.push (Z := [_])).st (by decide) (by decide) fun k S3 k0 k1 e3 => ?_
  walk_at "e"
  refine Iq_mem (e1.fresh e3) k0 k1 fun x hx => ?_
  obtain ⟨c, rfl, hc⟩ : ∃ c : Int, x = .int c ∧ (1 ≤ c ∧ c ≤ 6) := by
    simp only [List.mem_cons, List.not_mem_nil, or_false] at hx
    rcases hx with rfl | rfl | rfl | rfl | rfl <;> exact ⟨_, rfl, by omega⟩
  walk_at "e"
  refine ⟨by simp only [W62]; omega, ?_⟩
  have e13 := e1.push.trans e3
  refine lc_gen (s := s) (fun S v => inR 0 (many - 1) v = true ∧ okv s S v) (fun e h => ⟨h.1, h.2.ev e⟩) e13.st c.toNat (by simp [wipe]) (by show _ < 1000000; omega) (by simp only [nsz]; omega) ?_ ?_
  · intro j S' hj e4
    simp only [wipe_1, List.set_cons_succ, List.set_cons_zero]
    walk_at "e"
    refine d_ev e4.st h0 (by omega) fun r S5 r0 r1 e5 => ⟨e5, ?_, trivial⟩
    simp only [inR, Bool.and_eq_true, decide_eq_true_eq]
    omega
  · intro S4 xs e4 hl hx
    walk_at "e"
    refine ⟨by decide, ?_⟩
    refine d_ev (e4.push.push (Z := [_])).st (by decide) (by decide) fun k S6 k0 k1 e6 => ?_
    walk_at "e"
    refine Iq_mem ((e4.push (Z := [_])).fresh e6) k0 k1 fun w hw => ?_
    walk_at "e"
    have hT : S6[S4.length]? = some (.lst xs) := e6.at' _ _ (by have := e4.st.lt; omega) (by rw [List.getElem?_append_left (by simp)]; exact at_push)
    simp only [u_tupL hT]
    walk_at "e"
    refine ⟨by decide, ?_⟩
    have e := e13.trans (e4.push.push.trans e6)
    have hx6 : ∀ x ∈ xs, inR 0 (many - 1) x = true ∧ okv s S6 x := fun x h => ⟨(hx x h).1, (hx x h).2.ev (e4.push.push.trans e6 |> fun q => ⟨fun p o hp hh => e6.at' p o hp ((Grow.push _ _).at ((Grow.push _ _).at hh)), q.st⟩)⟩
    have hpp : partsP many (.tup xs) = true := by
      simp only [partsP, Bool.and_eq_true, decide_eq_true_eq, List.all_eq_true]
      exact ⟨⟨by omega, by omega⟩, fun x h => (hx6 x h).1⟩
    refine hP _ _ ?_ ?_ e
    · simp only [List.mem_cons, List.not_mem_nil, or_false] at hw
      rcases hw with rfl | rfl | rfl | rfl | rfl <;> simp only [nodeP, two, hpp] <;> rfl
    · refine ⟨by simp [okv, nsz], ?_, okvs_iff.mpr fun x h => (hx6 x h).2, trivial⟩
      simp only [List.mem_cons, List.not_mem_nil, or_false] at hw
      rcases hw with rfl | rfl | rfl | rfl | rfl <;> simp [okv, nsz]
theorem ggraph_spec (hs : Strm S s) (hP : ∀ v S', graphP v = true → okv s S' v → Ev s S S' → P v S') : Wq (callF tab (n + 4) 10 [.ref s, .int 8] S) P E := by
  refine Wq_call tab__law_graph rfl ?_
  simp only [f__law_graph, b__law_graph, startEnv, List.map_cons, List.map_nil, List.length_cons, List.length_nil, List.replicate, List.cons_append, List.nil_append]
  walk_at "e"
  refine d_ev hs (by decide) (by decide) fun r S1 r0 r1 e1 => ?_
  walk_at "e"
  refine ⟨by simp only [W62]; omega, ?_⟩
  refine lc_gen (s := s) (fun S v => nodeP v (1 + r) = true ∧ okv s S v) (fun e h => ⟨h.1, h.2.ev e⟩) e1.st (1 + r).toNat (by simp [wipe]) (by show _ < 1000000; omega) (by simp only [nsz]; omega) ?_ ?_
  · intro j S' hj e4
    simp only [wipe_1, List.set_cons_succ, List.set_cons_zero]
    walk_at "e"
    exact gnode_spec e4.st (by omega) (by omega) fun v S5 h1 h2 e5 => ⟨e5, h1, h2⟩
  · intro S4 xs e4 hl hx
    simp only [u_tupL at_push]
    walk_at "e"
    refine hP _ _ ?_ ?_ (e1.trans e4.push)
    · simp only [graphP, Bool.and_eq_true, decide_eq_true_eq, List.all_eq_true]
      refine ⟨⟨by omega, by omega⟩, fun x h => ?_⟩
      rw [show (xs.length : Int) = 1 + r by omega]
      exact (hx x h).1
    · exact okvs_iff.mpr fun x h => (hx x h).2.grow (Grow.push _ _)
theorem odd_spec {many : Int} (hs : Strm S s) (hP : ∀ v S', okv s S' v → Ev s S S' → P v S') : Wq (callF tab (n + 2) 15 [.ref s, .int many] S) P E := by
  refine Wq_call tab__law_odd rfl ?_
  simp only [f__law_odd, b__law_odd, startEnv, List.map_cons, List.map_nil, List.length_cons, List.length_nil, List.replicate, List.cons_append, List.nil_append]
  walk_at "e"
  refine ⟨by decide, by decide, by decide, ?_⟩
  rw [o_mult]
  refine ⟨by decide, by decide, ?_⟩
  rw [o_mult]
  refine ⟨by decide, by decide, by decide, by decide, by decide, by decide, ?_⟩
  rw [o_addl (a := [.bl true, .bl false, .non, .int (-1), .int many, .int 1000000000, .int (1000000000 + 1), .int (-1000000000 - 1), .str z_empty, .str z_A, .str z_1a, .str z_a_95_b, .str z_abcdefghijklm, .str z_a_10_, .str z_aB, .str z_a_32_b, .str z_a_45_, .str z_a_126_, .str z_a0B]) (b := [.tup [], .tup (List.replicate (Int.toNat 6) [PV.int 0]).flatten, .tup (List.replicate (Int.toNat 7) [PV.int 0]).flatten, .ref (S.length + 1), .tup [.int 0, .int many], .tup [.bl true], .tup [.non], .str z_var, .str z_int, .str z_atom, .str z_tuple, .str z_name, .str z_z])
    (by rw [List.getElem?_append_left (by simp), List.getElem?_append_left (by simp)]; exact at_push) (by rw [at_push]; simp)]
  refine ⟨by simp only [List.length_cons, List.length_nil]; decide, ?_⟩
  rw [u_lenL at_push]
  refine d_ev ((Ev.refl hs).push.push.push.push).st (by simp) (by simp) fun k S3 k0 k1 e3 => ?_
  refine Iq_mem (((Ev.refl hs).push.push.push).fresh e3) k0 k1 ?_
  have e := ((Ev.refl hs).push.push.push.push).trans e3
  have hl : okv s S3 (.ref (S.length + 1)) := by
    refine ⟨by have := hs.lt; omega, [.int 0], e3.at' _ _ (by have := hs.lt; omega) ?_⟩
    rw [List.getElem?_append_left (by simp), List.getElem?_append_left (by simp)]
    simp
  intro x hx
  refine hP _ _ ?_ e
  simp only [List.cons_append, List.nil_append, List.mem_cons, List.not_mem_nil, or_false] at hx
  rcases hx with rfl | rfl | rfl | rfl | rfl | rfl | rfl | rfl | rfl | rfl | rfl | rfl | rfl | rfl | rfl | rfl | rfl | rfl | rfl | rfl | rfl | rfl | rfl | rfl | rfl | rfl | rfl | rfl | rfl | rfl | rfl | rfl <;> first | exact hl | simp [okv, okvs, nsz, List.replicate]
theorem Gq_mem {xs : List PV} {i : Int} {Q : PV → Prop} (h0 : 0 ≤ i) (h1 : i < xs.length) (hQ : ∀ x ∈ xs, Q x) : Gq (atI xs i) Q := by
  obtain ⟨x, hx, hm⟩ := at_get h0 h1
  rw [hx, Gq_s]
  exact hQ x hm
theorem mem_cutL {xs : List PV} {l h : Option Int} {x : PV} (hx : x ∈ cutL xs l h) : x ∈ xs := List.mem_of_mem_drop (List.mem_of_mem_take hx)
theorem len_cutL {xs : List PV} {l h : Option Int} : (cutL xs l h).length ≤ xs.length := by
  simp only [cutL, List.length_take, List.length_drop]
  omega
theorem ok_cut {S : Store} {xs : List PV} {l h : Option Int} (hx : okvs s S xs) : okvs s S (cutL xs l h) := okvs_iff.mpr fun x h => okvs_iff.mp hx x (mem_cutL h)
theorem ok_app {S : Store} {xs ys : List PV} (hx : okvs s S xs) (hy : okvs s S ys) : okvs s S (xs ++ ys) := okvs_iff.mpr fun x h => (List.mem_append.mp h).elim (okvs_iff.mp hx x) (okvs_iff.mp hy x)
theorem nodeP_tup {v : PV} {k : Int} (h : nodeP v k = true) : ∃ xs, v = .tup xs ∧ 2 ≤ xs.length ∧ xs.length ≤ 3 := by
  match v, h with
  | .tup [.str w, x], _ => exact ⟨_, rfl, by simp, by simp⟩
  | .tup [.str w, x, y], _ => exact ⟨_, rfl, by simp, by simp⟩
  | .tup [.str w], h =>
    simp [nodeP, one, two] at h
  | .tup (.str w :: a :: b :: c :: r), h =>
    simp [nodeP, one, two] at h
theorem tl_ok {ns : List PV} {a : Int} {w : PV} {S' : Store} {E1 E2 : Exn → Store → Prop} (ho : okvs s S' ns) (hl : ns.length ≤ 400) (hw : okv s S' w) (hP : ∀ v, okv s S' v → P v S') : Wq (bop .add (.tup (cutL ns none (some a))) (.tup [w]) S') (fun x S => Wq (bop .add x (.tup (cutL ns (some (a + 1)) none)) S) (fun v S => P v S) E2) E1 := by
  have h1 := len_cutL (xs := ns) (l := none) (h := some a)
  have h2 := len_cutL (xs := ns) (l := some (a + 1)) (h := none)
  rw [o_addt]
  refine ⟨by simp only [nsz, List.length_cons, List.length_nil]; omega, ?_⟩
  rw [o_addt]
  refine ⟨by simp only [nsz, List.length_append, List.length_cons, List.length_nil]; omega, ?_⟩
  exact hP _ (ok_app (ok_app (ok_cut ho) ⟨hw, trivial⟩) (ok_cut ho))
theorem changed_spec {ns : List PV} (hs : Strm S s) (hg : graphP (.tup ns) = true) (ho : okvs s S ns) (hP : ∀ v S', okv s S' v → Ev s S S' → P v S') : Wq (callF tab (n + 3) 16 [.ref s, .tup ns] S) P E := by
  simp only [graphP, Bool.and_eq_true, decide_eq_true_eq, List.all_eq_true] at hg
  obtain ⟨⟨hl1, hl2⟩, hn⟩ := hg
  refine Wq_call tab__law_changed rfl ?_
  simp only [f__law_changed, b__law_changed, startEnv, List.map_cons, List.map_nil, List.length_cons, List.length_nil, List.replicate, List.cons_append, List.nil_append]
  walk_at "e"
  refine d_ev hs (by omega) (by omega) fun at' S1 a0 a1 e1 => ?_
  walk_at "e"
  refine Gq_mem a0 a1 fun nd hnd => ?_
  obtain ⟨xs, rfl, hx2, hx3⟩ := nodeP_tup (hn nd hnd)
  have hox := okvs_iff.mp ho _ hnd
  walk_at "e"
  refine d_ev e1.st (by decide) (by decide) fun pk S2 p0 p1 e2 => ?_
  walk_at "e"
  have e12 := e1.trans e2
  refine Br_d (fun h => ?_) (fun h => ?_)
  · walk_at "e"
    refine d_ev e12.st (by omega) (by omega) fun sp S3 s0 s1 e3 => ?_
    walk_at "e"
    refine odd_spec e3.st fun w S4 how e4 => ?_
    walk_at "e"
    refine ⟨by decide, ?_⟩
    rw [o_addt]
    refine ⟨by have := len_cutL (xs := xs) (l := none) (h := some sp); simp only [nsz, List.length_cons, List.length_nil]; omega, ?_⟩
    walk_at "e"
    rw [o_addt]
    have e14 := e12.trans (e3.trans e4)
    refine ⟨by have := len_cutL (xs := xs) (l := none) (h := some sp); have := len_cutL (xs := xs) (l := some (sp + 1)) (h := none); simp only [nsz, List.length_cons, List.length_nil, List.length_append]; omega, by decide, ?_⟩
    have hox' : okvs s S4 xs := okv.ev (x := .tup xs) hox e14
    exact tl_ok (okv.ev (x := .tup ns) ho e14) hl2 (ok_app (ok_app (ok_cut hox') ⟨how, trivial⟩) (ok_cut hox')) fun v hv => hP v _ hv e14
  walk_at "e"
  refine Br_e (fun h => ?_) (fun h => ?_)
  · walk_at "e"
    rw [o_addt]
    refine ⟨by simp only [nsz, List.length_cons, List.length_nil]; omega, ?_⟩
    walk_at "e"
    refine ⟨by simp only [nsz]; omega, by decide, Gq_mem (by decide) (by omega) fun x0 hx0 => ⟨by decide, ?_⟩⟩
    refine d_ev (e12.push.push).st (by decide) (by decide) fun k S3 k0 k1 e3 => ?_
    have e : Ev s S S3 := (e12.push.push).trans e3
    have hox' : okvs s S3 xs := okv.ev (x := .tup xs) hox e
    have hr : okv s S3 (.ref S2.length) := by
      refine ⟨by have := e2.st.lt; omega, xs, e3.at' _ _ (by have := e2.st.lt; omega) ?_⟩
      rw [List.getElem?_append_left (by simp)]
      exact at_push
    refine Iq_mem ((e12.push).fresh e3) k0 k1 fun v hv => ⟨by decide, ?_⟩
    refine tl_ok (okv.ev (x := .tup ns) ho e) hl2 ?_ fun v hv => hP v _ hv e
    simp only [List.mem_cons, List.not_mem_nil, or_false] at hv
    rcases hv with rfl | rfl | rfl | rfl | rfl | rfl
    · exact ok_cut hox'
    · exact ok_app hox' ⟨trivial, trivial⟩
    · exact hr
    · trivial
    · trivial
    · exact okvs_iff.mp hox' _ hx0
  walk_at "e"
  refine Br_e (fun h => ?_) (fun h => ?_)
  · walk_at "e"
    refine ⟨by decide, Gq_mem a0 a1 fun x0 hx0 => ⟨by decide, ?_⟩⟩
    refine d_ev (e12.push.push).st (by decide) (by decide) fun k S3 k0 k1 e3 => ?_
    have e : Ev s S S3 := (e12.push.push).trans e3
    have hr : okv s S3 (.ref S2.length) := by
      refine ⟨by have := e2.st.lt; omega, ns, e3.at' _ _ (by have := e2.st.lt; omega) ?_⟩
      rw [List.getElem?_append_left (by simp)]
      exact at_push
    refine Iq_mem ((e12.push).fresh e3) k0 k1 fun v hv => hP v _ ?_ e
    simp only [List.mem_cons, List.not_mem_nil, or_false] at hv
    rcases hv with rfl | rfl | rfl | rfl | rfl | rfl | rfl
    · exact hr
    · trivial
    · trivial
    · show _ ≤ nsz
      decide
    · exact okvs_iff.mp (okv.ev (x := .tup ns) ho e) _ hx0
    · trivial
    · trivial
  walk_at "e"
  refine ⟨by decide, ?_⟩
  refine d_ev (e12.push).st (by decide) (by decide) fun k S3 k0 k1 e3 => ?_
  have e : Ev s S S3 := (e12.push).trans e3
  have hox' : okvs s S3 xs := okv.ev (x := .tup xs) hox e
  refine Iq_mem (e12.fresh e3) k0 k1 fun v hv => ⟨by decide, ?_⟩
  rw [o_addt]
  refine ⟨by have := len_cutL (xs := xs) (l := some 1) (h := none); simp only [nsz, List.length_cons, List.length_nil]; omega, by decide, ?_⟩
  refine tl_ok (okv.ev (x := .tup ns) ho e) hl2 (ok_app (xs := [v]) ⟨?_, trivial⟩ (ok_cut hox')) fun v hv => hP v _ hv e
  simp only [List.mem_cons, List.not_mem_nil, or_false] at hv
  rcases hv with rfl | rfl | rfl | rfl | rfl <;> simp [okv, nsz]
end
theorem law_val (ns : List Int) (h63 : ns.length ≤ 63) : ∃ S, callF tab 40 17 [.rol (ns.map .int)] [] = .ok (.bl true) S := by
  suffices h : Wq (callF tab 40 17 [.rol (ns.map .int)] []) (fun v _ => v = .bl true) NoX by
    obtain ⟨a, S, h1, rfl⟩ := h.get
    exact ⟨S, h1⟩
  refine Wq_call tab_law rfl ?_
  simp only [f_law, b_law, startEnv, List.map_cons, List.map_nil, List.length_cons, List.length_nil, List.replicate, List.cons_append, List.nil_append]
  walk_at "e"
  refine stream_spec (n := 38) rfl h63 (by decide) fun m hs => ?_
  generalize ([] : Store).length + 1 = s at hs ⊢
  walk_at "e"
  refine ggraph_spec (n := 35) hs fun v S1 hv ho e1 => ?_
  walk_at "e"
  refine graph_spec (n := 35) ho fun S2 g2 => ?_
  walk_at "e"
  rw [hv]
  refine Br_d (fun _ => ?_) (fun h => absurd rfl h)
  walk_at "e"
  refine Br_e (fun _ => ?_) (fun h => absurd rfl h)
  walk_at "e"
  have e2 : Ev s _ S2 := e1.grow g2
  refine d_ev e2.st (by decide) (by decide) fun k S3 k0 k1 e3 => ?_
  walk_at "e"
  refine ⟨by simp only [W62]; omega, ?_⟩
  refine Lp_I k.toNat (fun i ρ S' => ∃ v last l1 l2, ρ = [some (.rol (ns.map .int)), some (.ref s), some v, last, l1, l2] ∧ Strm S' s ∧ okv s S' v) ⟨v, none, none, none, rfl, e3.st, (ho.grow g2).ev e3⟩ (by show _ < 1000000; omega) ?_
  rintro i ρ S4 ⟨v, last, l1, l2, rfl, e4, ho⟩ hi
  refine ⟨fun hlt => ⟨.int (i : Nat), by simp [ItV.next, hlt], ?_⟩, fun he => ⟨by simp [ItV.next, he], ?_⟩⟩
  · walk_at "e"
    refine Br_d (fun h => ?_) (fun h => ?_)
    · walk_at "e"
      refine due_spec (n := 35) ho fun S5 g5 => ?_
      walk_at "e"
      refine Br_i (fun hg => ?_) (fun hg => ?_)
      · walk_at "e"
        cases v with
        | tup xs =>
          refine changed_spec (n := 36) (e4.grow g5) hg (ho.grow g5) fun v S6 hv e6 => ?_
          walk_at "e"
          exact ⟨_, _, _, _, rfl, e6.st, hv⟩
        | _ => simp [graphP] at hg
      · walk_at "e"
        exact ⟨_, _, _, _, rfl, e4.grow g5, ho.grow g5⟩
    · walk_at "e"
      exact ⟨_, _, _, _, rfl, e4, ho⟩
  · walk_at "e"
    refine graph_spec (n := 35) ho fun S5 g5 => ?_
    walk_at "e"
    refine due_spec (n := 35) (ho.grow g5) fun S6 g6 => ?_
    walk_at "e"
    refine Br_e (fun _ => ?_) (fun h => absurd rfl h)
    walk_at "e"
    refine d_ev (e4.grow (g5.trans g6)) (by decide) (by decide) fun k S7 k0 k1 e7 => ?_
    walk_at "e"
    refine ⟨by decide, by decide, ?_⟩
    rw [o_mult]
    refine ⟨⟨by simp, by omega, by omega, by decide⟩, ?_⟩
    refine graph_spec (n := 35) (s := s) ?_ fun S8 g8 => ?_
    · refine okvs_iff.mpr fun x hx => ?_
      rw [List.flatten_replicate_singleton] at hx
      rw [List.eq_of_mem_replicate hx]
      simp [okv, okvs, nsz]
    · walk_at "e"
      rw [List.flatten_replicate_singleton]
      have : graphP (.tup (List.replicate (399 + k).toNat (.tup [.str z_atom, .str z_a]))) = decide (399 + k ≤ 400) := by
        simp only [graphP, List.length_replicate, List.all_replicate]
        rw [decide_eq_true (p := 1 ≤ (399 + k).toNat) (by omega), Bool.true_and]
        by_cases h : 399 + k ≤ 400
        · rw [decide_eq_true h, decide_eq_true (p := (399 + k).toNat ≤ 400) (by omega)]
          split <;> rfl
        · rw [decide_eq_false h, decide_eq_false (p := (399 + k).toNat ≤ 400) (by omega)]
          rfl
      rw [this]
      simp
end LD
namespace LD
open PySem PySem.Spec PyProof.Rows L2 L3
def top (i : Nat) : Stmt := PySem.Challenge.pw_leatwork_k01_is_graph.main.body.getD i (.Pass ⟨0, 0, 0, 0⟩)
def s_is_whole : FnS := { d := ⟨("is_whole", none), "is_whole", "is_whole", defArgs (top 7), defBody (top 7), defScope (top 7), [], []⟩, N := ["value"], ps := ["value"], fn := f_is_whole }
def s_is_atom : FnS := { d := ⟨("is_atom", none), "is_atom", "is_atom", defArgs (top 8), defBody (top 8), defScope (top 8), [], []⟩, N := ["value", "sign"], ps := ["value"], fn := f_is_atom }
def s_is_count : FnS := { d := ⟨("is_count", none), "is_count", "is_count", defArgs (top 9), defBody (top 9), defScope (top 9), [], []⟩, N := ["value"], ps := ["value"], fn := f_is_count }
def s_is_node : FnS := { d := ⟨("is_node", none), "is_node", "is_node", defArgs (top 10), defBody (top 10), defScope (top 10), [], []⟩, N := ["value", "count", "word", "part"], ps := ["value", "count"], fn := f_is_node }
def s_is_graph : FnS := { d := ⟨("is_graph", none), "is_graph", "is_graph", defArgs (top 11), defBody (top 11), defScope (top 11), [], []⟩, N := ["value", "node"], ps := ["value"], fn := f_is_graph }
def s__law_stream : FnS := { d := ⟨("_law_stream", none), "_law_stream", "_law_stream", defArgs (top 13), defBody (top 13), defScope (top 13), [], []⟩, N := ["_law_script", "_law_mixed", "_law_cell"], ps := ["_law_script"], fn := f__law_stream }
def s__law_draw : FnS := { d := ⟨("_law_draw", none), "_law_draw", "_law_draw", defArgs (top 14), defBody (top 14), defScope (top 14), [], []⟩, N := ["_law_stream_here", "_law_many", "_law_value"], ps := ["_law_stream_here", "_law_many"], fn := f__law_draw }
def s__law_far : FnS := { d := ⟨("_law_far", none), "_law_far", "_law_far", defArgs (top 15), defBody (top 15), defScope (top 15), [], []⟩, N := ["_law_stream_here"], ps := ["_law_stream_here"], fn := f__law_far }
def s__law_atom : FnS := { d := ⟨("_law_atom", none), "_law_atom", "_law_atom", defArgs (top 16), defBody (top 16), defScope (top 16), [], []⟩, N := ["_law_stream_here", "_law_atom_here", "_law_k"], ps := ["_law_stream_here"], fn := f__law_atom }
def s__law_node : FnS := { d := ⟨("_law_node", none), "_law_node", "_law_node", defArgs (top 17), defBody (top 17), defScope (top 17), [], []⟩, N := ["_law_stream_here", "_law_many", "_law_pick", "_law_parts", "_law_k"], ps := ["_law_stream_here", "_law_many"], fn := f__law_node }
def s__law_graph : FnS := { d := ⟨("_law_graph", none), "_law_graph", "_law_graph", defArgs (top 18), defBody (top 18), defScope (top 18), [], []⟩, N := ["_law_stream_here", "_law_most", "_law_many", "_law_k"], ps := ["_law_stream_here", "_law_most"], fn := f__law_graph }
def s__law_is_number : FnS := { d := ⟨("_law_is_number", none), "_law_is_number", "_law_is_number", defArgs (top 19), defBody (top 19), defScope (top 19), [], []⟩, N := ["_law_value", "_law_low", "_law_high"], ps := ["_law_value", "_law_low", "_law_high"], fn := f__law_is_number }
def s__law_is_atom : FnS := { d := ⟨("_law_is_atom", none), "_law_is_atom", "_law_is_atom", defArgs (top 20), defBody (top 20), defScope (top 20), [], []⟩, N := ["_law_value", "_law_letters", "_law_sign"], ps := ["_law_value"], fn := f__law_is_atom }
def s__law_is_node : FnS := { d := ⟨("_law_is_node", none), "_law_is_node", "_law_is_node", defArgs (top 21), defBody (top 21), defScope (top 21), [], []⟩, N := ["_law_node_here", "_law_many", "_law_part"], ps := ["_law_node_here", "_law_many"], fn := f__law_is_node }
def s__law_due : FnS := { d := ⟨("_law_due", none), "_law_due", "_law_due", defArgs (top 22), defBody (top 22), defScope (top 22), [], []⟩, N := ["_law_value", "_law_node_here"], ps := ["_law_value"], fn := f__law_due }
def s__law_odd : FnS := { d := ⟨("_law_odd", none), "_law_odd", "_law_odd", defArgs (top 23), defBody (top 23), defScope (top 23), [], []⟩, N := ["_law_stream_here", "_law_many", "_law_odd_here"], ps := ["_law_stream_here", "_law_many"], fn := f__law_odd }
def s__law_changed : FnS := { d := ⟨("_law_changed", none), "_law_changed", "_law_changed", defArgs (top 24), defBody (top 24), defScope (top 24), [], []⟩, N := ["_law_stream_here", "_law_value", "_law_at", "_law_node_here", "_law_pick", "_law_spot"], ps := ["_law_stream_here", "_law_value"], fn := f__law_changed }
def s_law : FnS := { d := ⟨("law", none), "law", "law", defArgs (top 25), defBody (top 25), defScope (top 25), [], []⟩, N := ["_law_script", "_law_stream_here", "_law_value", "_law_k", "_law_actual", "_law_many"], ps := ["_law_script"], fn := f_law }
def Tg_0 : List (PySem.Str × Nat) := [("MOST_NODES", 0), ("MOST_PARTS", 1), ("MOST_ATOM", 2), ("MOST_NUMBER", 3), ("SMALL", 4), ("DIGITS", 5)]
def Tg : List (PySem.Str × Nat) := Tg_0
def Tf_0 : List (PySem.Str × Nat) := [("is_whole", 0), ("is_atom", 1), ("is_count", 2), ("is_node", 3), ("is_graph", 4), ("_law_stream", 5), ("_law_draw", 6), ("_law_far", 7), ("_law_atom", 8), ("_law_node", 9), ("_law_graph", 10), ("_law_is_number", 11), ("_law_is_atom", 12), ("_law_is_node", 13), ("_law_due", 14), ("_law_odd", 15), ("_law_changed", 16), ("law", 17)]
def Tf : List (PySem.Str × Nat) := Tf_0
def gls_0 : List (PySem.Str × PV) := [("MOST_NODES", g_MOST_NODES), ("MOST_PARTS", g_MOST_PARTS), ("MOST_ATOM", g_MOST_ATOM), ("MOST_NUMBER", g_MOST_NUMBER), ("SMALL", g_SMALL), ("DIGITS", g_DIGITS)]
def gls : List (PySem.Str × PV) := gls_0
def T : GT := { glob := Tg, fns := Tf }
def L : LawD := { T := T, tab := tab, fs := [s_is_whole, s_is_atom, s_is_count, s_is_node, s_is_graph, s__law_stream, s__law_draw, s__law_far, s__law_atom, s__law_node, s__law_graph, s__law_is_number, s__law_is_atom, s__law_is_node, s__law_due, s__law_odd, s__law_changed, s_law], gl := gls }
theorem c_is_whole : compB T 60 ⟨s_is_whole.d.scope, s_is_whole.N, fun _ => true⟩ s_is_whole.d.body = some s_is_whole.fn.body := by kernel_rfl
theorem b_is_whole_ok : ∀ (kV doc pm : Value) (an : Option Addr) (cdv ct : Value) (us : List Value), us.length = s_is_whole.ps.length → bindArgs (PySem.W.fnOf s_is_whole.d.name s_is_whole.d.qual s_is_whole.d.params s_is_whole.d.body s_is_whole.d.scope .none kV doc pm an cdv ct) ⟨us, []⟩ = pure (s_is_whole.ps.zip us) :=
  fun _ _ _ _ _ _ us hl => match us, hl with | [_], _ => rfl
theorem c_is_atom : compB T 60 ⟨s_is_atom.d.scope, s_is_atom.N, fun _ => true⟩ s_is_atom.d.body = some s_is_atom.fn.body := by kernel_rfl
theorem b_is_atom_ok : ∀ (kV doc pm : Value) (an : Option Addr) (cdv ct : Value) (us : List Value), us.length = s_is_atom.ps.length → bindArgs (PySem.W.fnOf s_is_atom.d.name s_is_atom.d.qual s_is_atom.d.params s_is_atom.d.body s_is_atom.d.scope .none kV doc pm an cdv ct) ⟨us, []⟩ = pure (s_is_atom.ps.zip us) :=
  fun _ _ _ _ _ _ us hl => match us, hl with | [_], _ => rfl
theorem c_is_count : compB T 60 ⟨s_is_count.d.scope, s_is_count.N, fun _ => true⟩ s_is_count.d.body = some s_is_count.fn.body := by kernel_rfl
theorem b_is_count_ok : ∀ (kV doc pm : Value) (an : Option Addr) (cdv ct : Value) (us : List Value), us.length = s_is_count.ps.length → bindArgs (PySem.W.fnOf s_is_count.d.name s_is_count.d.qual s_is_count.d.params s_is_count.d.body s_is_count.d.scope .none kV doc pm an cdv ct) ⟨us, []⟩ = pure (s_is_count.ps.zip us) :=
  fun _ _ _ _ _ _ us hl => match us, hl with | [_], _ => rfl
theorem c_is_node : compB T 60 ⟨s_is_node.d.scope, s_is_node.N, fun _ => true⟩ s_is_node.d.body = some s_is_node.fn.body := by kernel_rfl
theorem b_is_node_ok : ∀ (kV doc pm : Value) (an : Option Addr) (cdv ct : Value) (us : List Value), us.length = s_is_node.ps.length → bindArgs (PySem.W.fnOf s_is_node.d.name s_is_node.d.qual s_is_node.d.params s_is_node.d.body s_is_node.d.scope .none kV doc pm an cdv ct) ⟨us, []⟩ = pure (s_is_node.ps.zip us) :=
  fun _ _ _ _ _ _ us hl => match us, hl with | [_, _], _ => rfl
theorem c_is_graph : compB T 60 ⟨s_is_graph.d.scope, s_is_graph.N, fun _ => true⟩ s_is_graph.d.body = some s_is_graph.fn.body := by kernel_rfl
theorem b_is_graph_ok : ∀ (kV doc pm : Value) (an : Option Addr) (cdv ct : Value) (us : List Value), us.length = s_is_graph.ps.length → bindArgs (PySem.W.fnOf s_is_graph.d.name s_is_graph.d.qual s_is_graph.d.params s_is_graph.d.body s_is_graph.d.scope .none kV doc pm an cdv ct) ⟨us, []⟩ = pure (s_is_graph.ps.zip us) :=
  fun _ _ _ _ _ _ us hl => match us, hl with | [_], _ => rfl
theorem c__law_stream : compB T 60 ⟨s__law_stream.d.scope, s__law_stream.N, fun _ => true⟩ s__law_stream.d.body = some s__law_stream.fn.body := by kernel_rfl
theorem b__law_stream_ok : ∀ (kV doc pm : Value) (an : Option Addr) (cdv ct : Value) (us : List Value), us.length = s__law_stream.ps.length → bindArgs (PySem.W.fnOf s__law_stream.d.name s__law_stream.d.qual s__law_stream.d.params s__law_stream.d.body s__law_stream.d.scope .none kV doc pm an cdv ct) ⟨us, []⟩ = pure (s__law_stream.ps.zip us) :=
  fun _ _ _ _ _ _ us hl => match us, hl with | [_], _ => rfl
theorem c__law_draw : compB T 60 ⟨s__law_draw.d.scope, s__law_draw.N, fun _ => true⟩ s__law_draw.d.body = some s__law_draw.fn.body := by kernel_rfl
theorem b__law_draw_ok : ∀ (kV doc pm : Value) (an : Option Addr) (cdv ct : Value) (us : List Value), us.length = s__law_draw.ps.length → bindArgs (PySem.W.fnOf s__law_draw.d.name s__law_draw.d.qual s__law_draw.d.params s__law_draw.d.body s__law_draw.d.scope .none kV doc pm an cdv ct) ⟨us, []⟩ = pure (s__law_draw.ps.zip us) :=
  fun _ _ _ _ _ _ us hl => match us, hl with | [_, _], _ => rfl
theorem c__law_far : compB T 60 ⟨s__law_far.d.scope, s__law_far.N, fun _ => true⟩ s__law_far.d.body = some s__law_far.fn.body := by kernel_rfl
theorem b__law_far_ok : ∀ (kV doc pm : Value) (an : Option Addr) (cdv ct : Value) (us : List Value), us.length = s__law_far.ps.length → bindArgs (PySem.W.fnOf s__law_far.d.name s__law_far.d.qual s__law_far.d.params s__law_far.d.body s__law_far.d.scope .none kV doc pm an cdv ct) ⟨us, []⟩ = pure (s__law_far.ps.zip us) :=
  fun _ _ _ _ _ _ us hl => match us, hl with | [_], _ => rfl
theorem c__law_atom : compB T 60 ⟨s__law_atom.d.scope, s__law_atom.N, fun _ => true⟩ s__law_atom.d.body = some s__law_atom.fn.body := by kernel_rfl
theorem b__law_atom_ok : ∀ (kV doc pm : Value) (an : Option Addr) (cdv ct : Value) (us : List Value), us.length = s__law_atom.ps.length → bindArgs (PySem.W.fnOf s__law_atom.d.name s__law_atom.d.qual s__law_atom.d.params s__law_atom.d.body s__law_atom.d.scope .none kV doc pm an cdv ct) ⟨us, []⟩ = pure (s__law_atom.ps.zip us) :=
  fun _ _ _ _ _ _ us hl => match us, hl with | [_], _ => rfl
theorem c__law_node : compB T 60 ⟨s__law_node.d.scope, s__law_node.N, fun _ => true⟩ s__law_node.d.body = some s__law_node.fn.body := by kernel_rfl
theorem b__law_node_ok : ∀ (kV doc pm : Value) (an : Option Addr) (cdv ct : Value) (us : List Value), us.length = s__law_node.ps.length → bindArgs (PySem.W.fnOf s__law_node.d.name s__law_node.d.qual s__law_node.d.params s__law_node.d.body s__law_node.d.scope .none kV doc pm an cdv ct) ⟨us, []⟩ = pure (s__law_node.ps.zip us) :=
  fun _ _ _ _ _ _ us hl => match us, hl with | [_, _], _ => rfl
theorem c__law_graph : compB T 60 ⟨s__law_graph.d.scope, s__law_graph.N, fun _ => true⟩ s__law_graph.d.body = some s__law_graph.fn.body := by kernel_rfl
theorem b__law_graph_ok : ∀ (kV doc pm : Value) (an : Option Addr) (cdv ct : Value) (us : List Value), us.length = s__law_graph.ps.length → bindArgs (PySem.W.fnOf s__law_graph.d.name s__law_graph.d.qual s__law_graph.d.params s__law_graph.d.body s__law_graph.d.scope .none kV doc pm an cdv ct) ⟨us, []⟩ = pure (s__law_graph.ps.zip us) :=
  fun _ _ _ _ _ _ us hl => match us, hl with | [_, _], _ => rfl
theorem c__law_is_number : compB T 60 ⟨s__law_is_number.d.scope, s__law_is_number.N, fun _ => true⟩ s__law_is_number.d.body = some s__law_is_number.fn.body := by kernel_rfl
theorem b__law_is_number_ok : ∀ (kV doc pm : Value) (an : Option Addr) (cdv ct : Value) (us : List Value), us.length = s__law_is_number.ps.length → bindArgs (PySem.W.fnOf s__law_is_number.d.name s__law_is_number.d.qual s__law_is_number.d.params s__law_is_number.d.body s__law_is_number.d.scope .none kV doc pm an cdv ct) ⟨us, []⟩ = pure (s__law_is_number.ps.zip us) :=
  fun _ _ _ _ _ _ us hl => match us, hl with | [_, _, _], _ => rfl
theorem c__law_is_atom : compB T 60 ⟨s__law_is_atom.d.scope, s__law_is_atom.N, fun _ => true⟩ s__law_is_atom.d.body = some s__law_is_atom.fn.body := by kernel_rfl
theorem b__law_is_atom_ok : ∀ (kV doc pm : Value) (an : Option Addr) (cdv ct : Value) (us : List Value), us.length = s__law_is_atom.ps.length → bindArgs (PySem.W.fnOf s__law_is_atom.d.name s__law_is_atom.d.qual s__law_is_atom.d.params s__law_is_atom.d.body s__law_is_atom.d.scope .none kV doc pm an cdv ct) ⟨us, []⟩ = pure (s__law_is_atom.ps.zip us) :=
  fun _ _ _ _ _ _ us hl => match us, hl with | [_], _ => rfl
theorem c__law_is_node : compB T 60 ⟨s__law_is_node.d.scope, s__law_is_node.N, fun _ => true⟩ s__law_is_node.d.body = some s__law_is_node.fn.body := by kernel_rfl
theorem b__law_is_node_ok : ∀ (kV doc pm : Value) (an : Option Addr) (cdv ct : Value) (us : List Value), us.length = s__law_is_node.ps.length → bindArgs (PySem.W.fnOf s__law_is_node.d.name s__law_is_node.d.qual s__law_is_node.d.params s__law_is_node.d.body s__law_is_node.d.scope .none kV doc pm an cdv ct) ⟨us, []⟩ = pure (s__law_is_node.ps.zip us) :=
  fun _ _ _ _ _ _ us hl => match us, hl with | [_, _], _ => rfl
theorem c__law_due : compB T 60 ⟨s__law_due.d.scope, s__law_due.N, fun _ => true⟩ s__law_due.d.body = some s__law_due.fn.body := by kernel_rfl
theorem b__law_due_ok : ∀ (kV doc pm : Value) (an : Option Addr) (cdv ct : Value) (us : List Value), us.length = s__law_due.ps.length → bindArgs (PySem.W.fnOf s__law_due.d.name s__law_due.d.qual s__law_due.d.params s__law_due.d.body s__law_due.d.scope .none kV doc pm an cdv ct) ⟨us, []⟩ = pure (s__law_due.ps.zip us) :=
  fun _ _ _ _ _ _ us hl => match us, hl with | [_], _ => rfl
theorem c__law_odd : compB T 60 ⟨s__law_odd.d.scope, s__law_odd.N, fun _ => true⟩ s__law_odd.d.body = some s__law_odd.fn.body := by kernel_rfl
theorem b__law_odd_ok : ∀ (kV doc pm : Value) (an : Option Addr) (cdv ct : Value) (us : List Value), us.length = s__law_odd.ps.length → bindArgs (PySem.W.fnOf s__law_odd.d.name s__law_odd.d.qual s__law_odd.d.params s__law_odd.d.body s__law_odd.d.scope .none kV doc pm an cdv ct) ⟨us, []⟩ = pure (s__law_odd.ps.zip us) :=
  fun _ _ _ _ _ _ us hl => match us, hl with | [_, _], _ => rfl
theorem c__law_changed : compB T 60 ⟨s__law_changed.d.scope, s__law_changed.N, fun _ => true⟩ s__law_changed.d.body = some s__law_changed.fn.body := by kernel_rfl
theorem b__law_changed_ok : ∀ (kV doc pm : Value) (an : Option Addr) (cdv ct : Value) (us : List Value), us.length = s__law_changed.ps.length → bindArgs (PySem.W.fnOf s__law_changed.d.name s__law_changed.d.qual s__law_changed.d.params s__law_changed.d.body s__law_changed.d.scope .none kV doc pm an cdv ct) ⟨us, []⟩ = pure (s__law_changed.ps.zip us) :=
  fun _ _ _ _ _ _ us hl => match us, hl with | [_, _], _ => rfl
theorem c_law : compB T 60 ⟨s_law.d.scope, s_law.N, fun _ => true⟩ s_law.d.body = some s_law.fn.body := by kernel_rfl
theorem b_law_ok : ∀ (kV doc pm : Value) (an : Option Addr) (cdv ct : Value) (us : List Value), us.length = s_law.ps.length → bindArgs (PySem.W.fnOf s_law.d.name s_law.d.qual s_law.d.params s_law.d.body s_law.d.scope .none kV doc pm an cdv ct) ⟨us, []⟩ = pure (s_law.ps.zip us) :=
  fun _ _ _ _ _ _ us hl => match us, hl with | [_], _ => rfl
theorem ok : L.Ok 60 where
  fns := by kernel_rfl
  glob := by kernel_rfl
  T_glob := by kernel_rfl
  T_fns := fns_ok (by kernel_rfl)
  sc := sc_ok (by kernel_rfl)
  comp := allc c_is_whole (allc c_is_atom (allc c_is_count (allc c_is_node (allc c_is_graph (allc c__law_stream (allc c__law_draw (allc c__law_far (allc c__law_atom (allc c__law_node (allc c__law_graph (allc c__law_is_number (allc c__law_is_atom (allc c__law_is_node (allc c__law_due (allc c__law_odd (allc c__law_changed (allc c_law (alln))))))))))))))))))
  binds := allc b_is_whole_ok (allc b_is_atom_ok (allc b_is_count_ok (allc b_is_node_ok (allc b_is_graph_ok (allc b__law_stream_ok (allc b__law_draw_ok (allc b__law_far_ok (allc b__law_atom_ok (allc b__law_node_ok (allc b__law_graph_ok (allc b__law_is_number_ok (allc b__law_is_atom_ok (allc b__law_is_node_ok (allc b__law_due_ok (allc b__law_odd_ok (allc b__law_changed_ok (allc b_law_ok (alln))))))))))))))))))
def names_0 : List PySem.Str := ["__name__", "MOST_NODES", "MOST_PARTS", "MOST_ATOM", "MOST_NUMBER", "SMALL", "DIGITS", "is_whole", "is_atom", "is_count", "is_node", "is_graph", "_law_stream", "_law_draw", "_law_far", "_law_atom", "_law_node", "_law_graph", "_law_is_number", "_law_is_atom"]
def names_1 : List PySem.Str := ["_law_is_node", "_law_due", "_law_odd", "_law_changed"]
def names : List PySem.Str := names_0 ++ names_1
abbrev R : PySem.W.OpenRow := PySem.W.OpenLaw.row PySem.Challenge.rw_leatwork_k01_is_graph
abbrev qv : Program := PySem.W.view R.prog [25]
abbrev hk : PySem.W.Hook := He.hookX 5 L.fa (L.fs.map (·.d)) [] [] L.ex
def ob (s : PySem.W.SharedT) : He.AlX := He.obsX 5 L.fa (L.fs.map (·.d)) [] [] L.ex (HandSHeadRun.getT s)
theorem ob_eq (s : PySem.W.SharedT) : ob s = hk.obs s.abs := He.obsX_eq (HandSHeadRun.getT_eq s)
theorem run (w : World) : HandSHeadRun.RunEq R qv hk ob 20000 names w := by
  intro os
  kernel_rfl
end LD
open PySem PySem.W PySem.Calls PyProof.Rows L3
theorem PySem.Challenge.cw_leatwork_k01_is_graph_holds : PySem.Challenge.rw_leatwork_k01_is_graph.Holds := by
  w_on; o_law
  refine HandSHeadRun.head_any (r := OpenLaw.row PySem.Challenge.rw_leatwork_k01_is_graph) (q := LD.qv) (H := LD.hk) (ob := LD.ob) (M := 20000) (loose := LD.names) (d := HandSHeadRun.topDef (OpenLaw.row PySem.Challenge.rw_leatwork_k01_is_graph).prog 25) (kwd := []) LD.ob_eq
    (by kernel_rfl) (fun s => by kernel_rfl) LD.run (by kernel_rfl) (by kernel_rfl) (by kernel_rfl) (by rfl) (by first | assumption | decide +kernel) (by decide +kernel) ⟨rfl, rfl, rfl, rfl, rfl, by decide +kernel⟩ ?hw ?hc
  case hw => w_witness2
  case hc => exact law_walk (l := PySem.Challenge.rw_leatwork_k01_is_graph) (L := LD.L) (dep := 60) (N := 40) (li := 17) (s := LD.s_law) (x := "_law_script") LD.ok rfl rfl rfl rfl (by kernel_rfl) (by kernel_rfl) ⟨rfl, by decide, by decide⟩ LD.law_val
