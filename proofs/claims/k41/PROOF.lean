import PyProof.Rows.All
import Wide.All
import OpenK.AllK
import Wide.FinOn
import KE.KStateDown
import Lean
import HandS.Base
import HandS.Call
import HandS.Ends
import HandS.More
import HandS.Words
import HandS.WordsExc
import HandS.Defaults
import HandS.Head0
import HandS.Head1
import HandS.Head2
import HandS.HeadEnd
import HandS.HeadHook1
import HandS.HeadHook2
import HandS.ForMost
import HandS.Exc
import HandS.TupAny
import HandS.Deep
import HandS.IsInst
import HandS.Style
import HandS.SetFor
import HandS.Strs
import PySem.Challenge.RW_widefills_k41_any_value_as_pattern
set_option Elab.async false
set_option linter.all false
set_option maxRecDepth 100000
set_option autoImplicit false
/-! Core: a small evaluator for the subset of Python that the program and the laws use. Values are data trees; lists and dicts that a def makes and changes are owned by a slot. -/
namespace Py

inductive D where
  | non
  | bl (b : Bool)
  | int (i : Int)
  | str (s : List Nat)
  | lst (xs : List D)
  | tup (xs : List D)
  | dct (ks vs : List D)
  | obj (c : Nat) (fs : List D)
  | scr (ns : List Int)
  deriving Inhabited

/-- what a slot may own: a list, a dict, an instance that is still being made -/
inductive OD where
  | lst (xs : List D)
  | dct (ks vs : List D)
  | obj (c : Nat) (fs : List (Option D))

/-- a value: frozen, or new and owned by nobody yet -/
inductive RV where
  | v (d : D)
  | o (od : OD)

structure Exn where
  c : Nat
  fs : List D

inductive Slot where
  | un
  | fz (d : D)
  | own (o : OD)
  | exc (x : Exn)
abbrev Env := List Slot

inductive Out (α : Type) where
  | ok (a : α) (e : Env)
  | ex (x : Exn) (e : Env)
abbrev R (α : Type) := Option (Out α)

def R.bind {α β : Type} (m : R α) (f : α → Env → R β) : R β :=
  match m with
  | none => none
  | some (.ex x e) => some (.ex x e)
  | some (.ok a e) => f a e

inductive BOp where
  | add | sub | mul | fdiv | mod | pow
inductive COp where
  | eq | ne | lt | le | gt | ge | is | isNot | isIn | notIn
inductive P1 where
  | abs | int | len | list | tuple | sum | all | any | repr | sorted | sortedSet | lenSet
inductive P2 where
  | divmod | max
inductive Ty where
  | int | bool | str | list | tuple | dict | non | cls (c : Nat)

mutual
inductive E where
  | var (i : Nat)
  | mov (i : Nat)
  | bor (i : Nat)
  | cst (d : D)
  | gl (x : Nat) (d : D)
  | bin (o : BOp) (a b : E)
  | neg (a : E)
  | cmp (o : COp) (a b : E)
  | chn (o p : COp) (a b c : E)
  | and (es : List E)
  | or (es : List E)
  | not (a : E)
  | ite (c a b : E)
  | tup (es : List E)
  | lst (es : List E)
  | dct0
  /-- a bound that is left out -/
  | no
  | idx (a i : E)
  | slc (a lo hi : E)
  | call (f : Nat) (as : List A) (pm : List Nat)
  | p1 (p : P1) (a : E)
  | p2 (p : P2) (a b : E)
  | isi (a : E) (ts : List Ty)
  | lc (e : E) (t : T) (it : It) (cs : List E)
  | app (i : Nat) (a : E)
  | ext (i : Nat) (a : E)
inductive A where
  | v (e : E)
  | r (i : Nat)
  | o (e : E)
inductive T where
  | n (i : Nat)
  | t (ts : List T)
  | s (i : Nat) (k : E)
inductive It where
  | e (a : E)
  | r1 (a : E)
  | r2 (a b : E)
  | r3 (a b c : E)
  | en (a : E)
  | zp (a b : E)
end

inductive S where
  | pas
  | expr (e : E)
  | asg (own : Bool) (t : T) (e : E)
  | par (ws : List (Bool × Nat)) (es : List E)
  | ret (own : Bool) (e : E)
  | ifs (c : E) (a b : List S)
  | whl (c : E) (b : List S)
  | fr (t : T) (it : It) (b : List S)
  | brk
  | cnt
  | nev

structure Fn where
  nargs : Nat
  nslots : Nat
  /-- the parameters that are changed for the caller -/
  io : List Nat
  body : List S

inductive Arg where
  | v (d : D)
  | r (o : OD)
inductive CR where
  | ret (r : RV) (outs : List OD)
  | exc (x : Exn) (outs : List OD)
abbrev Sig := Nat → List Arg → Option CR

/-- the longest list and text -/
def lim : Nat := 16777216

/-! ### values -/
def allSome {α : Type} : List (Option α) → Option (List α)
  | [] => some []
  | none :: _ => none
  | some a :: r => match allSome r with
    | some as => some (a :: as)
    | none => none
def frz : RV → Option D
  | .v d => some d
  | .o (.lst xs) => some (.lst xs)
  | .o (.dct ks vs) => some (.dct ks vs)
  | .o (.obj c fs) => match allSome fs with
    | some ds => some (.obj c ds)
    | none => none
def frzO : OD → Option D := fun o => frz (.o o)

mutual
def D.depth : D → Nat
  | .lst xs => D.depthAll xs + 1
  | .tup xs => D.depthAll xs + 1
  | _ => 0
def D.depthAll : List D → Nat
  | [] => 0
  | x :: xs => max (D.depth x) (D.depthAll xs)
end
mutual
/-- None, bools, ints, texts, lists, tuples alone -/
def D.plain : D → Bool
  | .non => true
  | .bl _ => true
  | .int _ => true
  | .str _ => true
  | .lst xs => D.plainAll xs
  | .tup xs => D.plainAll xs
  | _ => false
def D.plainAll : List D → Bool
  | [] => true
  | x :: xs => D.plain x && D.plainAll xs
end
mutual
def D.hasD : D → Bool
  | .lst xs => D.hasDs xs
  | .tup xs => D.hasDs xs
  | .dct _ _ => true
  | _ => false
def D.hasDs : List D → Bool
  | [] => false
  | x :: xs => D.hasD x || D.hasDs xs
end
mutual
def D.hasL : D → Bool
  | .lst _ => true
  | .tup xs => D.hasLs xs
  | _ => false
def D.hasLs : List D → Bool
  | [] => false
  | x :: xs => D.hasL x || D.hasLs xs
end
def b2i (b : Bool) : Int := if b then 1 else 0
mutual
/-- == of plain data -/
def D.eqv : D → D → Bool
  | .non, .non => true
  | .bl a, .bl b => a == b
  | .bl a, .int b => decide (b2i a = b)
  | .int a, .bl b => decide (a = b2i b)
  | .int a, .int b => decide (a = b)
  | .str a, .str b => decide (a = b)
  | .lst a, .lst b => D.eqvAll a b
  | .tup a, .tup b => D.eqvAll a b
  | _, _ => false
def D.eqvAll : List D → List D → Bool
  | [], [] => true
  | a :: as, b :: bs => D.eqv a b && D.eqvAll as bs
  | _, _ => false
end
/-- fit for == : plain, not too deep -/
def D.cmpOk (d : D) : Bool := D.plain d && decide (D.depth d ≤ 64)

def D.ints : List D → Option (List Int)
  | [] => some []
  | .int i :: r => match D.ints r with
    | some is => some (i :: is)
    | none => none
  | _ :: _ => none
def D.bools : List D → Option (List Bool)
  | [] => some []
  | .bl b :: r => match D.bools r with
    | some bs => some (b :: bs)
    | none => none
  | _ :: _ => none

mutual
/-- a < b of alike data -/
def D.lt : D → D → Bool
  | .int a, .int b => decide (a < b)
  | .str a, .str b => decide (a < b)
  | .bl a, .bl b => !a && b
  | .lst a, .lst b => D.ltAll a b
  | .tup a, .tup b => D.ltAll a b
  | _, _ => false
def D.ltAll : List D → List D → Bool
  | [], [] => false
  | [], _ :: _ => true
  | _ :: _, [] => false
  | a :: as, b :: bs => if D.eqv a b then D.ltAll as bs else D.lt a b
end
def insI (x : Int) : List Int → List Int
  | [] => [x]
  | y :: ys => if x ≤ y then x :: y :: ys else y :: insI x ys
def sortI : List Int → List Int
  | [] => []
  | x :: xs => insI x (sortI xs)
def dedupI : List Int → List Int
  | [] => []
  | x :: xs => if x ∈ xs then dedupI xs else x :: dedupI xs

/-! ### operators -/
def binOp (o : BOp) (a b : D) : Option RV :=
  match o, a, b with
  | .add, .int i, .int j => some (.v (.int (i + j)))
  | .add, .str x, .str y => if x.length + y.length ≤ lim then some (.v (.str (x ++ y))) else none
  | .add, .lst x, .lst y => if x.length + y.length ≤ lim then some (.o (.lst (x ++ y))) else none
  | .add, .tup x, .tup y => if x.length + y.length ≤ lim then some (.v (.tup (x ++ y))) else none
  | .sub, .int i, .int j => some (.v (.int (i - j)))
  | .mul, .int i, .int j => if -(2 ^ 64) < i ∧ i < 2 ^ 64 then some (.v (.int (i * j))) else none
  | .mul, .str x, .int j => if x.length * j.toNat ≤ 1000000 ∧ j < 2 ^ 62 ∧ -(2 ^ 62) < j then some (.v (.str (List.replicate j.toNat x).flatten)) else none
  | .mul, .lst x, .int j => if x.length * j.toNat ≤ 1000000 ∧ j < 2 ^ 62 ∧ -(2 ^ 62) < j then some (.o (.lst (List.replicate j.toNat x).flatten)) else none
  | .fdiv, .int i, .int j => if j ≠ 0 ∧ j.natAbs < 1073741824 then some (.v (.int (i.fdiv j))) else none
  | .mod, .int i, .int j => if j ≠ 0 then some (.v (.int (i.fmod j))) else none
  | .pow, .int i, .int j => if 0 ≤ j ∧ j ≤ 1000 ∧ i.natAbs < 2 ^ 64 then some (.v (.int (i ^ j.toNat))) else none
  | _, _, _ => none

def isNon : D → Bool
  | .non => true
  | _ => false
def isInS (x y : List Nat) : Option Bool := match x with
  | [c] => some (decide (c ∈ y))
  | _ => none
def cmpOp (o : COp) (a b : D) : Option Bool :=
  match o with
  | .eq => if D.cmpOk a && D.cmpOk b then some (D.eqv a b) else none
  | .ne => if D.cmpOk a && D.cmpOk b then some (!D.eqv a b) else none
  | .lt => match a, b with
    | .int i, .int j => some (decide (i < j))
    | _, _ => none
  | .le => match a, b with
    | .int i, .int j => some (decide (i ≤ j))
    | _, _ => none
  | .gt => match a, b with
    | .int i, .int j => some (decide (j < i))
    | _, _ => none
  | .ge => match a, b with
    | .int i, .int j => some (decide (j ≤ i))
    | _, _ => none
  | .is => match a, b with
    | x, .non => some (isNon x)
    | .bl x, .bl y => some (x == y)
    | _, _ => none
  | .isNot => match a, b with
    | x, .non => some (!isNon x)
    | .bl x, .bl y => some (!(x == y))
    | _, _ => none
  | .isIn => match b with
    | .lst ys => if D.cmpOk a && D.cmpOk (.lst ys) then some (ys.any fun z => D.eqv z a) else none
    | .tup ys => if D.cmpOk a && D.cmpOk (.tup ys) then some (ys.any fun z => D.eqv z a) else none
    | .str y => match a with
      | .str x => isInS x y
      | _ => none
    | _ => none
  | .notIn => match b with
    | .lst ys => if D.cmpOk a && D.cmpOk (.lst ys) then some (!ys.any fun z => D.eqv z a) else none
    | .tup ys => if D.cmpOk a && D.cmpOk (.tup ys) then some (!ys.any fun z => D.eqv z a) else none
    | .str y => match a with
      | .str x => (isInS x y).map (!·)
      | _ => none
    | _ => none

/-- the place that an index means -/
def ixOf (n : Nat) (i : Int) : Option Nat :=
  if 0 ≤ i then (if i < n then some i.toNat else none) else if -(n : Int) ≤ i then some (i + n).toNat else none
def idxOp (a i : D) : Option D :=
  match a, i with
  | .lst xs, .int k => (ixOf xs.length k).bind fun j => xs[j]?
  | .tup xs, .int k => (ixOf xs.length k).bind fun j => xs[j]?
  | .scr ns, .int k => (ixOf ns.length k).bind fun j => (ns[j]?).map D.int
  | .str s, .int k => (ixOf s.length k).bind fun j => (s[j]?).map fun c => D.str [c]
  | _, _ => none
/-- a slice's end, cut to the length -/
def clip (n : Nat) (i : Int) : Nat := if 0 ≤ i then min i.toNat n else (i + n).toNat
def cutL {α : Type} (xs : List α) (lo hi : Option Int) : List α :=
  let a := match lo with
    | some i => clip xs.length i
    | none => 0
  let b := match hi with
    | some i => clip xs.length i
    | none => xs.length
  (xs.drop a).take (b - a)
def isNo : E → Bool
  | .no => true
  | _ => false
def bnd (e : E) (d : D) : Option (Option Int) :=
  if isNo e then some none else match d with
    | .int i => some (some i)
    | _ => none
def slcOp (a : D) (l h : Option Int) : Option RV :=
  match a with
  | .lst xs => some (.o (.lst (cutL xs l h)))
  | .tup xs => some (.v (.tup (cutL xs l h)))
  | .str s => some (.v (.str (cutL s l h)))
  | _ => none

/-- repr: opaque here -/
structure Par where
  sh : D → Option (List Nat)
variable (par : Par)

def p1Op (p : P1) (a : D) : Option RV :=
  match p, a with
  | .abs, .int i => some (.v (.int (i.natAbs : Int)))
  | .int, .int i => some (.v (.int i))
  | .int, .bl b => some (.v (.int (b2i b)))
  | .len, .lst xs => some (.v (.int xs.length))
  | .len, .tup xs => some (.v (.int xs.length))
  | .len, .str s => some (.v (.int s.length))
  | .len, .scr ns => some (.v (.int ns.length))
  | .len, .dct ks _ => some (.v (.int ks.length))
  | .list, .lst xs => some (.o (.lst xs))
  | .list, .tup xs => some (.o (.lst xs))
  | .tuple, .lst xs => some (.v (.tup xs))
  | .sum, .lst xs => match D.ints xs with
    | some is => some (.v (.int is.sum))
    | none => none
  | .all, .lst xs => match D.bools xs with
    | some bs => some (.v (.bl (bs.all id)))
    | none => none
  | .any, .lst xs => match D.bools xs with
    | some bs => some (.v (.bl (bs.any id)))
    | none => none
  | .repr, d => match par.sh d with
    | some s => some (.v (.str s))
    | none => none
  | .sortedSet, .lst xs => match D.ints xs with
    | some is => if is.length < 64 then some (.o (.lst ((sortI (dedupI is)).map D.int))) else none
    | none => none
  | _, _ => none
def p2Op (p : P2) (a b : D) : Option RV :=
  match p, a, b with
  | .divmod, .int i, .int j => if 0 < j ∧ j < 1073741824 then some (.v (.tup [.int (i / j), .int (i % j)])) else none
  | .max, .int i, .int j => some (.v (.int (if j > i then j else i)))
  | _, _, _ => none
def isTy (d : D) (t : Ty) : Option Bool :=
  match d with
  | .non => some (match t with | .non => true | _ => false)
  | .bl _ => some (match t with | .bool => true | .int => true | _ => false)
  | .int _ => some (match t with | .int => true | _ => false)
  | .str _ => some (match t with | .str => true | _ => false)
  | .lst _ => some (match t with | .list => true | _ => false)
  | .tup _ => some (match t with | .tuple => true | _ => false)
  | .dct _ _ => some (match t with | .dict => true | _ => false)
  | .obj c _ => some (match t with | .cls c' => c == c' | _ => false)
  | .scr _ => none
def isTys (d : D) : List Ty → Option Bool
  | [] => some false
  | t :: ts => match isTy d t with
    | none => none
    | some true => some true
    | some false => isTys d ts

/-! ### expressions -/
/-- an operand: a value, or what a slot owns -/
inductive PV where
  | d (d : D)
  | b (i : Nat)
def resolve (env : Env) : PV → Option D
  | .d d => some d
  | .b i => match env[i]? with
    | some (.own o) => frzO o
    | some (.fz d) => some d
    | _ => none
def lift {α : Type} (o : Option α) (e : Env) : R α := match o with
  | some a => some (.ok a e)
  | none => none
/-- an argument: a value, what a slot owns, a new object of the call's own -/
inductive AV where
  | d (d : D)
  | r (i : Nat)
  | o (od : OD)
def toArg (env : Env) : AV → Option Arg
  | .d d => some (.v d)
  | .r i => match env[i]? with
    | some (.own o) => some (.r o)
    | _ => none
  | .o od => some (.r od)
def refsOf : List AV → List Nat
  | [] => []
  | .d _ :: r => refsOf r
  | .r i :: r => i :: refsOf r
  | .o _ :: r => refsOf r
def putBack : List AV → List OD → Env → Option Env
  | [], [], e => some e
  | .d _ :: r, os, e => putBack r os e
  | .r i :: r, o :: os, e => putBack r os (e.set i (.own o))
  | .o _ :: r, _ :: os, e => putBack r os e
  | _, _, _ => none
def AV.isD : AV → Bool
  | .d _ => true
  | _ => false
/-- the arguments in the parameters' order; by keywords values alone -/
def permute (xs : List AV) (pm : List Nat) : Option (List AV) := match pm with
  | [] => some xs
  | pm => if xs.all AV.isD then allSome (pm.map fun j => xs[j]?) else none
def callIt (Φ : Sig) (f : Nat) (ps : List AV) (env : Env) : R RV :=
  match allSome (ps.map (toArg env)) with
  | none => none
  | some args => if (refsOf ps).Nodup then match Φ f args with
      | some (.ret r outs) => match putBack ps outs env with
        | some env' => some (.ok r env')
        | none => none
      | some (.exc x outs) => match putBack ps outs env with
        | some env' => some (.ex x env')
        | none => none
      | none => none
    else none
/-- no exception may come -/
def nox {α : Type} (m : R α) : R α := match m with
  | some (.ex _ _) => none
  | m => m
def asBool : RV → Env → R Bool
  | .v (.bl b), e => some (.ok b e)
  | _, _ => none
def fzR (m : R RV) : R D := m.bind fun r e => lift (frz r) e
def bndR (c : E) (m : R RV) : R (Option Int) := (fzR m).bind fun d e => lift (bnd c d) e
def readVar (i : Nat) (env : Env) : R RV := match env[i]? with
  | some (.fz d) => some (.ok (.v d) env)
  | some (.own o) => match frzO o with
    | some d => some (.ok (.v d) (env.set i (.fz d)))
    | none => none
  | _ => none
def movVar (i : Nat) (env : Env) : R RV := match env[i]? with
  | some (.own o) => some (.ok (.o o) (env.set i .un))
  | some (.fz d) => some (.ok (.v d) env)
  | _ => none
/-- the turns of a comprehension -/
def lcLoop (turn : D → Env → R (Option D)) : List D → Env → List D → R (List D)
  | [], e, acc => some (.ok acc e)
  | d :: ds, e, acc => (turn d e).bind fun r e1 => match r with
    | some y => if acc.length < lim then lcLoop turn ds e1 (acc ++ [y]) else none
    | none => lcLoop turn ds e1 acc
def ownsL (i : Nat) (env : Env) : Bool := match env[i]? with
  | some (.own (.lst _)) => true
  | _ => false
def appOp (i : Nat) (d : D) (env : Env) : R RV := match env[i]? with
  | some (.own (.lst xs)) => if xs.length < lim then some (.ok (.v .non) (env.set i (.own (.lst (xs ++ [d]))))) else none
  | _ => none
def extOp (i : Nat) (d : D) (env : Env) : R RV := match env[i]?, d with
  | some (.own (.lst xs)), .lst ys => if xs.length + ys.length ≤ lim then some (.ok (.v .non) (env.set i (.own (.lst (xs ++ ys))))) else none
  | _, _ => none
def setOp (i : Nat) (k d : D) (env : Env) : R Unit := match env[i]?, k with
  | some (.own (.lst xs)), .int j => match ixOf xs.length j with
    | some n => some (.ok () (env.set i (.own (.lst (xs.set n d)))))
    | none => none
  | _, _ => none
def inI (i : Int) : Bool := decide (-(2 ^ 62) ≤ i ∧ i < 2 ^ 62)
def rng (lo : Int) (n : Nat) (c : Int) : List D := (List.range n).map fun (k : Nat) => D.int (lo + k * c)
/-- how many turns a range has -/
def turns (i j c : Int) : Nat := if 0 < c then (if i < j then ((j - i - 1) / c + 1).toNat else 0) else (if j < i then ((i - j - 1) / (-c) + 1).toNat else 0)
def items : D → Option (List D)
  | .lst xs => some xs
  | .tup xs => some xs
  | .str s => some (s.map fun c => D.str [c])
  | _ => none
/-- the slots that a loop's target binds -/
def slotsT : T → List Nat
  | .n i => [i]
  | .t ts => ts.filterMap fun t => match t with
    | .n i => some i
    | _ => none
  | .s _ _ => []
def wipeS : List Nat → Env → Env
  | [], e => e
  | i :: is, e => wipeS is (e.set i .un)
/-- what a comprehension's own names hid comes back -/
def backS : List Nat → Env → Env → Env
  | [], _, e => e
  | i :: is, old, e => backS is old (e.set i (old.getD i .un))
def isOwn : Slot → Bool
  | .own _ => true
  | _ => false
def hidable (is : List Nat) (e : Env) : Bool := is.all fun i => !isOwn (e.getD i .un)
/-- the cells that a target binds: all names -/
def setN : T → D → Env → R Unit
  | .n i, d, e => some (.ok () (e.set i (.fz d)))
  | _, _, _ => none
def setNs : List T → List D → Env → R Unit
  | [], [], e => some (.ok () e)
  | t :: ts, d :: ds, e => (setN t d e).bind fun _ e1 => setNs ts ds e1
  | _, _, _ => none
/-- a loop's target -/
def bindT : T → D → Env → R Unit
  | .t ts, .tup ds, e => setNs ts ds e
  | .n i, d, e => some (.ok () (e.set i (.fz d)))
  | _, _, _ => none

/-- an operand: what a slot owns is looked at where it stands -/
def asP (a : E) (m : R RV) (env : Env) : R PV := match a with
  | .bor i => match env[i]? with
    | some (.own _) => some (.ok (.b i) env)
    | some (.fz _) => some (.ok (.b i) env)
    | _ => none
  | _ => (fzR m).bind fun d e1 => some (.ok (.d d) e1)
variable (Φ : Sig)
mutual
def evR : E → Env → R RV
  | .var i, env => readVar i env
  | .mov i, env => movVar i env
  | .bor _, _ => none
  | .cst d, env => some (.ok (.v d) env)
  | .gl _ d, env => some (.ok (.v d) env)
  | .bin o a b, env => (asP a (evR a env) env).bind fun x e1 => (asP b (evR b e1) e1).bind fun y e2 =>
      match resolve e2 x, resolve e2 y with
      | some p, some q => lift (binOp o p q) e2
      | _, _ => none
  | .neg a, env => (fzR (evR a env)).bind fun x e1 => match x with
      | .int i => some (.ok (.v (.int (-i))) e1)
      | _ => none
  | .cmp o a b, env => (asP a (evR a env) env).bind fun x e1 => (asP b (evR b e1) e1).bind fun y e2 =>
      match resolve e2 x, resolve e2 y with
      | some p, some q => lift ((cmpOp o p q).map fun c => RV.v (.bl c)) e2
      | _, _ => none
  | .chn o p a b c, env => (fzR (evR a env)).bind fun x e1 => (fzR (evR b e1)).bind fun y e2 =>
      match cmpOp o x y with
      | some true => (fzR (evR c e2)).bind fun z e3 => lift ((cmpOp p y z).map fun c => RV.v (.bl c)) e3
      | some false => some (.ok (.v (.bl false)) e2)
      | none => none
  | .and es, env => evAnd es env
  | .or es, env => evOr es env
  | .not a, env => ((evR a env).bind asBool).bind fun c e1 => some (.ok (.v (.bl (!c))) e1)
  | .ite c a b, env => ((evR c env).bind asBool).bind fun c e1 => if c then evR a e1 else evR b e1
  | .tup es, env => (evEs es env).bind fun ds e1 => some (.ok (.v (.tup ds)) e1)
  | .lst es, env => (evEs es env).bind fun ds e1 => some (.ok (.o (.lst ds)) e1)
  | .dct0, env => some (.ok (.o (.dct [] [])) env)
  | .no, env => some (.ok (.v .non) env)
  | .idx a i, env => (asP a (evR a env) env).bind fun x e1 => (fzR (evR i e1)).bind fun y e2 =>
      match resolve e2 x with
      | some p => lift ((idxOp p y).map RV.v) e2
      | none => none
  | .slc a lo hi, env => (asP a (evR a env) env).bind fun x e1 => (bndR lo (evR lo e1)).bind fun l e2 => (bndR hi (evR hi e2)).bind fun h e3 =>
      match resolve e3 x with
      | some p => lift (slcOp p l h) e3
      | none => none
  | .call f as pm, env => (evAs as env).bind fun ps e1 => match permute ps pm with
      | some qs => callIt Φ f qs e1
      | none => none
  | .p1 p a, env => (asP a (evR a env) env).bind fun x e1 => match resolve e1 x with
      | some d => lift (p1Op par p d) e1
      | none => none
  | .p2 p a b, env => (fzR (evR a env)).bind fun x e1 => (fzR (evR b e1)).bind fun y e2 => lift (p2Op p x y) e2
  | .isi a ts, env => (fzR (evR a env)).bind fun x e1 => lift ((isTys x ts).map fun c => RV.v (.bl c)) e1
  | .lc el t it cs, env => (evIt it env).bind fun ds e1 => if hidable (slotsT t) e1 then
      (lcLoop (fun d e => nox ((bindT t d (wipeS (slotsT t) e)).bind fun _ e2 => (evCs cs e2).bind fun b e3 => if b then (fzR (evR el e3)).bind fun y e4 => some (.ok (some y) e4) else some (.ok none e3))) ds e1 []).bind fun ys e2 => some (.ok (.o (.lst ys)) (backS (slotsT t) e1 e2))
    else none
  | .app i a, env => if ownsL i env then (fzR (evR a env)).bind fun d e1 => appOp i d e1 else none
  | .ext i a, env => if ownsL i env then (fzR (evR a env)).bind fun d e1 => extOp i d e1 else none
def evEs : List E → Env → R (List D)
  | [], env => some (.ok [] env)
  | e :: es, env => (fzR (evR e env)).bind fun d e1 => (evEs es e1).bind fun ds e2 => some (.ok (d :: ds) e2)
/-- and, or: all but the last are bools -/
def evAnd : List E → Env → R RV
  | [], _ => none
  | [e], env => (fzR (evR e env)).bind fun d e1 => some (.ok (.v d) e1)
  | e :: es, env => ((evR e env).bind asBool).bind fun c e1 => if c then evAnd es e1 else some (.ok (.v (.bl false)) e1)
def evOr : List E → Env → R RV
  | [], _ => none
  | [e], env => (fzR (evR e env)).bind fun d e1 => some (.ok (.v d) e1)
  | e :: es, env => ((evR e env).bind asBool).bind fun c e1 => if c then some (.ok (.v (.bl true)) e1) else evOr es e1
def evCs : List E → Env → R Bool
  | [], env => some (.ok true env)
  | e :: es, env => ((evR e env).bind asBool).bind fun b e1 => if b then evCs es e1 else some (.ok false e1)
def evAs : List A → Env → R (List AV)
  | [], env => some (.ok [] env)
  | a :: as, env => (evA a env).bind fun p e1 => (evAs as e1).bind fun ps e2 => some (.ok (p :: ps) e2)
def evA : A → Env → R AV
  | .v e, env => (fzR (evR e env)).bind fun d e1 => some (.ok (.d d) e1)
  | .r i, env => match env[i]? with
      | some (.own _) => some (.ok (.r i) env)
      | _ => none
  | .o e, env => (evR e env).bind fun r e1 => match r with
      | .o od => some (.ok (.o od) e1)
      | .v _ => none
def evIt : It → Env → R (List D)
  | .e a, env => (fzR (evR a env)).bind fun d e1 => lift (items d) e1
  | .r1 a, env => (fzR (evR a env)).bind fun d e1 => match d with
      | .int j => if inI j then some (.ok (rng 0 j.toNat 1) e1) else none
      | _ => none
  | .r2 a b, env => (fzR (evR a env)).bind fun d e1 => (fzR (evR b e1)).bind fun d2 e2 => match d, d2 with
      | .int i, .int j => if inI i && inI j then some (.ok (rng i (j - i).toNat 1) e2) else none
      | _, _ => none
  | .r3 a b c, env => (fzR (evR a env)).bind fun d e1 => (fzR (evR b e1)).bind fun d2 e2 => (fzR (evR c e2)).bind fun d3 e3 => match d, d2, d3 with
      | .int i, .int j, .int k => if inI i && inI j && decide (k ≠ 0 ∧ k.natAbs < 1073741824) then some (.ok (rng i (turns i j k) k) e3) else none
      | _, _, _ => none
  | .en a, env => (fzR (evR a env)).bind fun d e1 => match d with
      | .lst xs => some (.ok ((List.range xs.length).zipWith (fun (k : Nat) x => D.tup [.int k, x]) xs) e1)
      | _ => none
  | .zp a b, env => (fzR (evR a env)).bind fun d e1 => (fzR (evR b e1)).bind fun d2 e2 => match d, d2 with
      | .lst xs, .lst ys => some (.ok (xs.zipWith (fun x y => D.tup [x, y]) ys) e2)
      | _, _ => none
end

/-! ### statements -/
inductive SO where
  | nx (e : Env)
  | rt (r : RV) (e : Env)
  | bk (e : Env)
  | ct (e : Env)
  | ex (x : Exn) (e : Env)
def R.st {α : Type} (m : R α) (f : α → Env → Option SO) : Option SO :=
  match m with
  | none => none
  | some (.ex x e) => some (.ex x e)
  | some (.ok a e) => f a e
def storeRV (own : Bool) (i : Nat) (r : RV) (e : Env) : Option Env := match own, r with
  | true, .o o => some (e.set i (.own o))
  | _, r => match frz r with
    | some d => some (e.set i (.fz d))
    | none => none
def storeRVs : List (Bool × Nat) → List RV → Env → Option Env
  | [], [], e => some e
  | w :: ws, r :: rs, e => match storeRV w.1 w.2 r e with
    | some e1 => storeRVs ws rs e1
    | none => none
  | _, _, _ => none
/-- values in a row, each new one kept -/
def evRs : List E → Env → R (List RV)
  | [], env => some (.ok [] env)
  | e :: es, env => (evR par Φ e env).bind fun r e1 => (evRs es e1).bind fun rs e2 => some (.ok (r :: rs) e2)
/-- a target of an assignment by parts -/
def asgT : T → D → Env → R Unit
  | .n i, d, e => some (.ok () (e.set i (.fz d)))
  | .s i k, d, e => if ownsL i e then (fzR (evR par Φ k e)).bind fun k' e1 => setOp i k' d e1 else none
  | .t _, _, _ => none
def asgTs : List T → List D → Env → R Unit
  | [], [], e => some (.ok () e)
  | t :: ts, d :: ds, e => (asgT par Φ t d e).bind fun _ e1 => asgTs ts ds e1
  | _, _, _ => none
def loopW (c : Env → R Bool) (b : Env → Option SO) : Nat → Env → Option SO
  | 0, _ => none
  | n + 1, e => (c e).st fun t e1 => if t then match b e1 with
      | some (.nx e2) => loopW c b n e2
      | some (.ct e2) => loopW c b n e2
      | some (.bk e2) => some (.nx e2)
      | r => r
    else some (.nx e1)
def loopF (b : D → Env → Option SO) : List D → Env → Option SO
  | [], e => some (.nx e)
  | d :: ds, e => match b d e with
    | some (.nx e2) => loopF b ds e2
    | some (.ct e2) => loopF b ds e2
    | some (.bk e2) => some (.nx e2)
    | r => r
/-- the most turns of a while -/
def mostTurns : Nat := 1000000
mutual
def evS : S → Env → Option SO
  | .pas, env => some (.nx env)
  | .expr e, env => (evR par Φ e env).st fun _ e1 => some (.nx e1)
  | .asg own (.n i) e, env => (evR par Φ e env).st fun r e1 => (storeRV own i r e1).map SO.nx
  | .asg _ (.s i k) e, env => (fzR (evR par Φ e env)).st fun d e1 => (asgT par Φ (.s i k) d e1).st fun _ e2 => some (.nx e2)
  | .asg _ (.t ts) e, env => (fzR (evR par Φ e env)).st fun d e1 => match d with
      | .tup ds => if ds.length = ts.length then (asgTs par Φ ts ds e1).st fun _ e2 => some (.nx e2) else none
      | _ => none
  | .par ws es, env => (evRs par Φ es env).st fun rs e1 => (storeRVs ws rs e1).map SO.nx
  | .ret own e, env => (evR par Φ e env).st fun r e1 => if own then some (.rt r e1) else match frz r with
      | some d => some (.rt (.v d) e1)
      | none => none
  | .ifs c a b, env => ((evR par Φ c env).bind asBool).st fun t e1 => if t then evSs a e1 else evSs b e1
  | .whl c b, env => loopW (fun e => (evR par Φ c e).bind asBool) (fun e => evSs b e) mostTurns env
  | .fr t it b, env => (evIt par Φ it env).st fun ds e1 => loopF (fun d e => (bindT t d e).st fun _ e2 => evSs b e2) ds e1
  | .brk, env => some (.bk env)
  | .cnt, env => some (.ct env)
  | .nev, _ => none
def evSs : List S → Env → Option SO
  | [], env => some (.nx env)
  | s :: ss, env => match evS s env with
    | some (.nx e1) => evSs ss e1
    | r => r
end

/-! ### defs -/
def slotOf : Arg → Slot
  | .v d => .fz d
  | .r o => .own o
def outsOf : List Arg → Env → Option (List OD)
  | [], _ => some []
  | .v _ :: r, _ :: e => outsOf r e
  | .r _ :: r, .own o :: e => match outsOf r e with
    | some os => some (o :: os)
    | none => none
  | _, _ => none
def ioOk (io : List Nat) : Nat → List Arg → Bool
  | _, [] => true
  | i, .v _ :: r => ioOk io (i + 1) r
  | i, .r _ :: r => decide (i ∈ io) && ioOk io (i + 1) r
def runFn (f : Fn) (args : List Arg) : Option CR :=
  if args.length = f.nargs ∧ ioOk f.io 0 args = true then
    match evSs par Φ f.body (args.map slotOf ++ List.replicate (f.nslots - f.nargs) .un) with
    | some (.nx e) => (outsOf args e).map (CR.ret (.v .non))
    | some (.rt r e) => (outsOf args e).map (CR.ret r)
    | some (.ex x e) => (outsOf args e).map (CR.exc x)
    | _ => none
  else none
/-- the defs of a program, by number; k calls deep -/
def sig (fns : List Fn) : Nat → Sig
  | 0, _, _ => none
  | k + 1, f, args => match fns[f]? with
    | some fn => runFn par (sig fns k) fn args
    | none => none
/-! what repr can show -/
mutual
def safe : D → Bool
  | .non => true
  | .bl _ => true
  | .int i => decide (-100 ≤ i) && decide (i ≤ 100)
  | .str s => s.all (· < 128) && decide (s.length ≤ 1000)
  | .lst xs => safeAll xs
  | .tup xs => safeAll xs
  | .dct ks vs => ks.isEmpty && vs.isEmpty
  | _ => false
def safeAll : List D → Bool
  | [] => true
  | x :: xs => safe x && safeAll xs
end
mutual
def wt : D → Nat
  | .int _ => 40
  | .str s => 10 * s.length + 2
  | .lst xs => wtAll xs + 4
  | .tup xs => wtAll xs + 4
  | _ => 5
def wtAll : List D → Nat
  | [] => 0
  | x :: xs => wt x + 2 + wtAll xs
end
def Showy (v : D) : Bool := safe v && (decide (wt v ≤ 100000) && (decide (D.depth v ≤ 60) && !(D.hasD v && D.hasL v)))
end Py

/-! Rel: what a data tree stands for over the hand layer's heap; steps that keep it. -/
namespace Py
open PySem PySem.Spec PyProof.Rows L2

/-- a text of code points, not too long -/
def StrOk (s : List Nat) : Prop := (∀ c ∈ s, c < 0x110000) ∧ s.length ≤ lim
mutual
/-- the value v stands for d, all of whose objects stand in F -/
def Rep (K : PySem.W.Frag) (F : Hp) : D → V → Prop
  | .non, v => v = .non
  | .bl b, v => v = .bl b
  | .int i, v => v = .int i
  | .str s, v => v = .str ⟨s.toArray⟩ ∧ StrOk s
  | .lst xs, v => ∃ a vs, v = .ref a ∧ F a = some (.lst vs) ∧ RepAll K F xs vs
  | .tup xs, v => ∃ a vs, v = .ref a ∧ F a = some (.tup vs) ∧ RepAll K F xs vs
  | .dct ks ds, v => ∃ a, v = .ref a ∧ F a = some (.dK []) ∧ ks = [] ∧ ds = []
  | .obj _ _, _ => False
  | .scr ns, v => ∃ a, v = .ref a ∧ SqL K F a (ns.map V.int)
def RepAll (K : PySem.W.Frag) (F : Hp) : List D → List V → Prop
  | [], vs => vs = []
  | d :: ds, vs => ∃ v r, vs = v :: r ∧ Rep K F d v ∧ RepAll K F ds r
end
/-- F lies within H -/
def Le (F H : Hp) : Prop := ∀ a o, F a = some o → H a = some o
theorem Le.refl (F : Hp) : Le F F := fun _ _ h => h
theorem Le.trans {F G H : Hp} (a : Le F G) (b : Le G H) : Le F H := fun p o h => b p o (a p o h)
theorem Le.sql {K : PySem.W.Frag} {F H : Hp} {a : Addr} {xs : List V} (e : Le F H) (h : SqL K F a xs) : SqL K H a xs := by
  rcases h with (h | ⟨o, h⟩) | h
  · exact .inl (.inl (e _ _ h))
  · exact .inl (.inr ⟨o, e _ _ h⟩)
  · exact .inr h
mutual
theorem Rep.mono {K : PySem.W.Frag} {F F' : Hp} (e : Le F F') : ∀ {d : D} {v : V}, Rep K F d v → Rep K F' d v
  | .non, _, h => h
  | .bl _, _, h => h
  | .int _, _, h => h
  | .str _, _, h => h
  | .lst xs, _, h => by
    unfold Rep at h ⊢
    obtain ⟨a, vs, h1, h2, h3⟩ := h
    exact ⟨a, vs, h1, e _ _ h2, RepAll.mono e h3⟩
  | .tup xs, _, h => by
    unfold Rep at h ⊢
    obtain ⟨a, vs, h1, h2, h3⟩ := h
    exact ⟨a, vs, h1, e _ _ h2, RepAll.mono e h3⟩
  | .dct _ _, _, h => by
    unfold Rep at h ⊢
    obtain ⟨a, h1, h2, h3⟩ := h
    exact ⟨a, h1, e _ _ h2, h3⟩
  | .obj _ _, _, h => h
  | .scr _, _, h => by
    unfold Rep at h ⊢
    obtain ⟨a, h1, h2⟩ := h
    exact ⟨a, h1, e.sql h2⟩
theorem RepAll.mono {K : PySem.W.Frag} {F F' : Hp} (e : Le F F') : ∀ {ds : List D} {vs : List V}, RepAll K F ds vs → RepAll K F' ds vs
  | [], _, h => h
  | d :: ds, _, h => by
    unfold RepAll at h ⊢
    obtain ⟨v, r, h1, h2, h3⟩ := h
    exact ⟨v, r, h1, Rep.mono e h2, RepAll.mono e h3⟩
end
section
variable {K : PySem.W.Frag} {F : Hp}
theorem RepAll.nil : RepAll K F [] [] := by unfold RepAll; rfl
theorem RepAll.cons {d : D} {ds : List D} {v : V} {vs : List V} (h : Rep K F d v) (t : RepAll K F ds vs) : RepAll K F (d :: ds) (v :: vs) := by
  unfold RepAll; exact ⟨v, vs, rfl, h, t⟩
theorem RepAll.inv {d : D} {ds : List D} {vs : List V} (h : RepAll K F (d :: ds) vs) : ∃ v r, vs = v :: r ∧ Rep K F d v ∧ RepAll K F ds r := by
  unfold RepAll at h; exact h
theorem RepAll.inv0 {vs : List V} (h : RepAll K F [] vs) : vs = [] := by
  unfold RepAll at h; exact h
theorem RepAll.len : ∀ {ds : List D} {vs : List V}, RepAll K F ds vs → vs.length = ds.length
  | [], _, h => by rw [h.inv0]; rfl
  | d :: ds, _, h => by
    obtain ⟨v, r, rfl, _, t⟩ := h.inv
    simp [RepAll.len t]
theorem RepAll.get : ∀ {ds : List D} {vs : List V} {i : Nat} {d : D}, RepAll K F ds vs → ds[i]? = some d → ∃ v, vs[i]? = some v ∧ Rep K F d v
  | [], _, _, _, _, e => by simp at e
  | d :: ds, _, 0, _, h, e => by
    obtain ⟨v, r, rfl, h1, _⟩ := h.inv
    simp at e; subst e
    exact ⟨v, rfl, h1⟩
  | d :: ds, _, i + 1, _, h, e => by
    obtain ⟨v, r, rfl, _, t⟩ := h.inv
    obtain ⟨u, h1, h2⟩ := RepAll.get (i := i) t (by simpa using e)
    exact ⟨u, by simpa using h1, h2⟩
theorem RepAll.append : ∀ {ds es : List D} {vs us : List V}, RepAll K F ds vs → RepAll K F es us → RepAll K F (ds ++ es) (vs ++ us)
  | [], _, _, _, h, t => by rw [h.inv0]; exact t
  | d :: ds, _, _, _, h, t => by
    obtain ⟨v, r, rfl, h1, h2⟩ := h.inv
    exact .cons h1 (RepAll.append h2 t)
theorem RepAll.take : ∀ {ds : List D} {vs : List V} (n : Nat), RepAll K F ds vs → RepAll K F (ds.take n) (vs.take n)
  | _, _, 0, _ => by simp; exact .nil
  | [], _, n + 1, h => by rw [h.inv0]; simp; exact .nil
  | d :: ds, _, n + 1, h => by
    obtain ⟨v, r, rfl, h1, h2⟩ := h.inv
    simp only [List.take_succ_cons]
    exact .cons h1 (RepAll.take n h2)
theorem RepAll.drop : ∀ {ds : List D} {vs : List V} (n : Nat), RepAll K F ds vs → RepAll K F (ds.drop n) (vs.drop n)
  | _, _, 0, h => h
  | [], _, n + 1, h => by rw [h.inv0]; simp; exact .nil
  | d :: ds, _, n + 1, h => by
    obtain ⟨v, r, rfl, _, h2⟩ := h.inv
    exact RepAll.drop n h2
theorem RepAll.set : ∀ {ds : List D} {vs : List V} {d : D} {v : V} (i : Nat), RepAll K F ds vs → Rep K F d v → RepAll K F (ds.set i d) (vs.set i v)
  | [], _, _, _, _, h, _ => by rw [h.inv0]; simp; exact .nil
  | x :: ds, _, _, _, 0, h, hd => by
    obtain ⟨v, r, rfl, _, h2⟩ := h.inv
    exact .cons hd h2
  | x :: ds, _, _, _, i + 1, h, hd => by
    obtain ⟨v, r, rfl, h1, h2⟩ := h.inv
    exact .cons h1 (RepAll.set i h2 hd)
theorem RepAll.repl {ds : List D} {vs : List V} (h : RepAll K F ds vs) : ∀ n : Nat, RepAll K F (List.replicate n ds).flatten (List.replicate n vs).flatten
  | 0 => .nil
  | n + 1 => by
    rw [List.replicate_succ, List.flatten_cons, List.replicate_succ, List.flatten_cons]
    exact h.append (RepAll.repl h n)
theorem RepAll.ints : ∀ {ds : List D} {vs : List V} {is : List Int}, RepAll K F ds vs → D.ints ds = some is → vs = is.map V.int
  | [], _, _, h, e => by
    rw [h.inv0]
    simp only [D.ints, Option.some.injEq] at e
    subst e; rfl
  | d :: ds, _, is, h, e => by
    obtain ⟨v, r, rfl, h1, h2⟩ := h.inv
    cases d with
    | int i =>
      cases q : D.ints ds with
      | none => simp [D.ints, q] at e
      | some js =>
        simp only [D.ints, q, Option.some.injEq] at e
        subst e
        rw [RepAll.ints h2 q]
        unfold Rep at h1
        rw [h1]; rfl
    | _ => simp [D.ints] at e
theorem RepAll.bools : ∀ {ds : List D} {vs : List V} {bs : List Bool}, RepAll K F ds vs → D.bools ds = some bs → vs = bs.map V.bl
  | [], _, _, h, e => by
    rw [h.inv0]
    simp only [D.bools, Option.some.injEq] at e
    subst e; rfl
  | d :: ds, _, is, h, e => by
    obtain ⟨v, r, rfl, h1, h2⟩ := h.inv
    cases d with
    | bl i =>
      cases q : D.bools ds with
      | none => simp [D.bools, q] at e
      | some js =>
        simp only [D.bools, q, Option.some.injEq] at e
        subst e
        rw [RepAll.bools h2 q]
        unfold Rep at h1
        rw [h1]; rfl
    | _ => simp [D.bools] at e
theorem RepAll.ofInts : ∀ (is : List Int), RepAll K F (is.map D.int) (is.map V.int)
  | [] => .nil
  | i :: is => .cons (by unfold Rep; rfl) (RepAll.ofInts is)
end

/-! ### plain data as the library's PyData -/
mutual
def toP : D → PyData
  | .non => .none
  | .bl b => .bool b
  | .int i => .int i
  | .str s => .str ⟨s.toArray⟩
  | .lst xs => .list (toPs xs)
  | .tup xs => .tuple (toPs xs)
  | .dct _ _ => .dict []
  | .obj _ _ => .none
  | .scr _ => .none
def toPs : List D → List PyData
  | [] => []
  | x :: xs => toP x :: toPs xs
end
theorem toPs_eq : ∀ xs : List D, toPs xs = xs.map toP
  | [] => rfl
  | x :: xs => by rw [toPs, toPs_eq xs]; rfl
mutual
theorem Rep.dp {K : PySem.W.Frag} {F H : Hp} (le : Le F H) : ∀ {d : D} {v : V}, Rep K F d v → D.plain d = true → Dp K H v (toP d)
  | .non, _, h, _ => by unfold Rep at h; subst h; exact .non
  | .bl b, _, h, _ => by unfold Rep at h; subst h; exact .bl b
  | .int i, _, h, _ => by unfold Rep at h; subst h; exact .int i
  | .str s, _, h, _ => by unfold Rep at h; rw [h.1]; exact .str _
  | .lst xs, _, h, p => by
    unfold Rep at h
    obtain ⟨a, vs, rfl, h2, h3⟩ := h
    unfold toP
    exact .lst (SqL.of (le _ _ h2)) (RepAll.dp le h3 (by simpa [D.plain] using p))
  | .tup xs, _, h, p => by
    unfold Rep at h
    obtain ⟨a, vs, rfl, h2, h3⟩ := h
    unfold toP
    exact .tup (SqT.of (le _ _ h2)) (RepAll.dp le h3 (by simpa [D.plain] using p))
  | .dct _ _, _, _, p => by simp [D.plain] at p
  | .obj _ _, _, _, p => by simp [D.plain] at p
  | .scr _, _, _, p => by simp [D.plain] at p
theorem RepAll.dp {K : PySem.W.Frag} {F H : Hp} (le : Le F H) : ∀ {ds : List D} {vs : List V}, RepAll K F ds vs → D.plainAll ds = true → DpAll K H vs (toPs ds)
  | [], _, h, _ => by rw [h.inv0]; exact .nil
  | d :: ds, _, h, p => by
    obtain ⟨v, r, rfl, h1, h2⟩ := h.inv
    have p' : D.plain d = true ∧ D.plainAll ds = true := by simpa [D.plainAll] using p
    unfold toPs
    exact .cons (Rep.dp le h1 p'.1) (RepAll.dp le h2 p'.2)
end
mutual
theorem Rep.lay {K : PySem.W.Frag} {F : Hp} : ∀ {d : D} {v : V}, Rep K F d v → D.plain d = true → PyData.canLay0 (toP d) = true
  | .non, _, _, _ => by simp [toP, PyData.canLay0]
  | .bl b, _, _, _ => by simp [toP, PyData.canLay0]
  | .int i, _, _, _ => by simp [toP, PyData.canLay0]
  | .str s, _, h, _ => by
    unfold Rep at h
    simp only [toP, PyData.canLay0, PyData.strOk]
    simp only [Array.all_eq_true_iff_forall_mem, List.mem_toArray, decide_eq_true_eq]
    exact h.2.1
  | .lst xs, _, h, p => by
    unfold Rep at h
    obtain ⟨a, vs, rfl, h2, h3⟩ := h
    simp only [toP, PyData.canLay0]
    exact RepAll.lay h3 (by simpa [D.plain] using p)
  | .tup xs, _, h, p => by
    unfold Rep at h
    obtain ⟨a, vs, rfl, h2, h3⟩ := h
    simp only [toP, PyData.canLay0]
    exact RepAll.lay h3 (by simpa [D.plain] using p)
  | .dct _ _, _, _, p => by simp [D.plain] at p
  | .obj _ _, _, _, p => by simp [D.plain] at p
  | .scr _, _, _, p => by simp [D.plain] at p
theorem RepAll.lay {K : PySem.W.Frag} {F : Hp} : ∀ {ds : List D} {vs : List V}, RepAll K F ds vs → D.plainAll ds = true → PyData.canLayAll0 (toPs ds) = true
  | [], _, _, _ => by simp [toPs, PyData.canLayAll0]
  | d :: ds, _, h, p => by
    obtain ⟨v, r, rfl, h1, h2⟩ := h.inv
    have p' : D.plain d = true ∧ D.plainAll ds = true := by simpa [D.plainAll] using p
    simp only [toPs, PyData.canLayAll0, Rep.lay h1 p'.1, RepAll.lay h2 p'.2, Bool.and_self]
end
mutual
theorem depth_toP : ∀ d : D, D.plain d = true → PyData.depth (toP d) = D.depth d
  | .non, _ => by simp [toP, PyData.depth, D.depth]
  | .bl b, _ => by simp [toP, PyData.depth, D.depth]
  | .int i, _ => by simp [toP, PyData.depth, D.depth]
  | .str s, _ => by simp [toP, PyData.depth, D.depth]
  | .lst xs, p => by simp only [toP, PyData.depth, D.depth]; rw [depth_toPs xs (by simpa [D.plain] using p)]
  | .tup xs, p => by simp only [toP, PyData.depth, D.depth]; rw [depth_toPs xs (by simpa [D.plain] using p)]
  | .dct _ _, p => by simp [D.plain] at p
  | .obj _ _, p => by simp [D.plain] at p
  | .scr _, p => by simp [D.plain] at p
theorem depth_toPs : ∀ ds : List D, D.plainAll ds = true → PyData.depthAll (toPs ds) = D.depthAll ds
  | [], _ => by simp [toPs, PyData.depthAll, D.depthAll]
  | d :: ds, p => by
    have p' : D.plain d = true ∧ D.plainAll ds = true := by simpa [D.plainAll] using p
    simp only [toPs, PyData.depthAll, D.depthAll, depth_toP d p'.1, depth_toPs ds p'.2]
end
theorem Rep.shaped {K : PySem.W.Frag} {F : Hp} {d : D} {v : V} (h : Rep K F d v) (c : D.cmpOk d = true) : SeqAt.shaped (toP d) = true := by
  have c' : D.plain d = true ∧ D.depth d ≤ 64 := by simpa [D.cmpOk] using c
  unfold SeqAt.shaped
  rw [h.lay c'.1, depth_toP d c'.1]
  simp [c'.2]
end Py

/-! Ops: operators on values that stand for data. -/
namespace Py
open PySem PySem.Spec PyProof.Rows L2

/-- new objects alone: nothing that was tracked changes, F grows by new ones -/
structure GoN (F H F' H' : Hp) : Prop where
  le : Le F' H'
  mono : Le F F'
  keep : Le H H'
  new : ∀ a o, F' a = some o → F a = some o ∨ H a = none
theorem GoN.refl {F H : Hp} (le : Le F H) : GoN F H F H := ⟨le, Le.refl _, Le.refl _, fun _ _ h => .inl h⟩
theorem Le.none {F H : Hp} (le : Le F H) {p : Addr} (h : H p = Option.none) : F p = Option.none := by
  cases q : F p with
  | none => rfl
  | some o => rw [le p o q] at h; cases h
/-- a new object that is frozen at once -/
theorem GoN.both {F H : Hp} (le : Le F H) {p : Addr} (hp : H p = none) (o : HO) : GoN F H (upd F p o) (upd H p o) where
  le := fun a u h => by
    by_cases e : a = p
    · subst e; rw [upd_same] at h ⊢; exact h
    · rw [upd_ne e] at h ⊢; exact le _ _ h
  mono := fun a u h => by rw [upd_ne (ne_of_none h (le.none hp))]; exact h
  keep := fun a u h => by rw [upd_ne (ne_of_none h hp)]; exact h
  new := fun a u h => by
    by_cases e : a = p
    · subst e; exact .inr hp
    · rw [upd_ne e] at h; exact .inl h
/-- a new object that is not frozen -/
theorem GoN.one {F H : Hp} (le : Le F H) {p : Addr} (hp : H p = none) (o : HO) : GoN F H F (upd H p o) where
  le := fun a u h => by rw [upd_ne (ne_of_none h (le.none hp))]; exact le _ _ h
  mono := Le.refl _
  keep := fun a u h => by rw [upd_ne (ne_of_none h hp)]; exact h
  new := fun _ _ h => .inl h
theorem GoN.trans {F H F1 H1 F2 H2 : Hp} (a : GoN F H F1 H1) (b : GoN F1 H1 F2 H2) : GoN F H F2 H2 where
  le := b.le
  mono := a.mono.trans b.mono
  keep := a.keep.trans b.keep
  new := fun p o h => by
    rcases b.new p o h with h | h
    · exact a.new p o h
    · right
      cases q : H p with
      | none => rfl
      | some u => rw [a.keep p u q] at h; cases h

/-- what stands at an owned address -/
def OwnOk (K : PySem.W.Frag) (F H : Hp) (p : Addr) : OD → Prop
  | .lst xs => ∃ vs, H p = some (.lst vs) ∧ RepAll K F xs vs
  | .dct ks ds => H p = some (.dK []) ∧ ks = [] ∧ ds = []
  | .obj _ _ => False
theorem OwnOk.there {K : PySem.W.Frag} {F H : Hp} {p : Addr} {od : OD} (h : OwnOk K F H p od) : ∃ o, H p = some o := by
  cases od with
  | lst xs => obtain ⟨vs, h, _⟩ := h; exact ⟨_, h⟩
  | dct ks ds => exact ⟨_, h.1⟩
  | obj c fs => exact h.elim
theorem OwnOk.go {K : PySem.W.Frag} {F H F' H' : Hp} {p : Addr} {od : OD} (h : OwnOk K F H p od) (m : Le F F') (k : ∀ o, H p = some o → H' p = some o) : OwnOk K F' H' p od := by
  cases od with
  | lst xs => obtain ⟨vs, h1, h2⟩ := h; exact ⟨vs, k _ h1, h2.mono m⟩
  | dct ks ds => exact ⟨k _ h.1, h.2⟩
  | obj c fs => exact h.elim
/-- freezing what stands at p -/
theorem OwnOk.freeze {K : PySem.W.Frag} {F H : Hp} {p : Addr} {od : OD} {d : D} (h : OwnOk K F H p od) (hd : frz (.o od) = some d) (hF : F p = none) :
    ∃ o, H p = some o ∧ Rep K (upd F p o) d (.ref p) := by
  have m : ∀ o, Le F (upd F p o) := fun o a u q => by rw [upd_ne (ne_of_none q hF)]; exact q
  cases od with
  | lst xs =>
    obtain ⟨vs, h1, h2⟩ := h
    simp only [frz, Option.some.injEq] at hd
    subst hd
    refine ⟨_, h1, ?_⟩
    unfold Rep
    exact ⟨p, vs, rfl, upd_same, h2.mono (m _)⟩
  | dct ks ds =>
    simp only [frz, Option.some.injEq] at hd
    subst hd
    refine ⟨_, h.1, ?_⟩
    unfold Rep
    exact ⟨p, rfl, upd_same, h.2⟩
  | obj c fs => exact h.elim

/-- an operand: its top may be owned -/
def RepB (K : PySem.W.Frag) (F H : Hp) : D → V → Prop
  | .lst xs, v => ∃ a vs, v = .ref a ∧ H a = some (.lst vs) ∧ RepAll K F xs vs
  | .dct ks ds, v => ∃ a, v = .ref a ∧ H a = some (.dK []) ∧ ks = [] ∧ ds = []
  | d, v => Rep K F d v
theorem Rep.b {K : PySem.W.Frag} {F H : Hp} (le : Le F H) {d : D} {v : V} (h : Rep K F d v) : RepB K F H d v := by
  cases d with
  | lst xs =>
    unfold Rep at h
    obtain ⟨a, vs, h1, h2, h3⟩ := h
    exact ⟨a, vs, h1, le _ _ h2, h3⟩
  | dct ks ds =>
    unfold Rep at h
    obtain ⟨a, h1, h2, h3⟩ := h
    exact ⟨a, h1, le _ _ h2, h3⟩
  | _ => exact h
theorem OwnOk.b {K : PySem.W.Frag} {F H : Hp} {p : Addr} {od : OD} {d : D} (h : OwnOk K F H p od) (hd : frzO od = some d) : RepB K F H d (.ref p) := by
  unfold frzO at hd
  cases od with
  | lst xs =>
    obtain ⟨vs, h1, h2⟩ := h
    simp only [frz, Option.some.injEq] at hd
    subst hd
    exact ⟨p, vs, rfl, h1, h2⟩
  | dct ks ds =>
    simp only [frz, Option.some.injEq] at hd
    subst hd
    exact ⟨p, rfl, h.1, h.2⟩
  | obj c fs => exact h.elim
theorem RepB.go {K : PySem.W.Frag} {F H F' H' : Hp} (g : GoN F H F' H') {d : D} {v : V} (h : RepB K F H d v) : RepB K F' H' d v := by
  cases d with
  | lst xs =>
    obtain ⟨a, vs, h1, h2, h3⟩ := h
    exact ⟨a, vs, h1, g.keep _ _ h2, h3.mono g.mono⟩
  | dct ks ds =>
    obtain ⟨a, h1, h2, h3⟩ := h
    exact ⟨a, h1, g.keep _ _ h2, h3⟩
  | _ => exact Rep.mono g.mono h
theorem RepB.dp {K : PySem.W.Frag} {F H : Hp} (le : Le F H) {d : D} {v : V} (h : RepB K F H d v) (p : D.plain d = true) : Dp K H v (toP d) := by
  cases d with
  | lst xs =>
    obtain ⟨a, vs, rfl, h2, h3⟩ := h
    unfold toP
    exact .lst (SqL.of h2) (h3.dp le (by simpa [D.plain] using p))
  | dct ks ds => simp [D.plain] at p
  | _ => exact Rep.dp le h p
theorem RepB.shaped {K : PySem.W.Frag} {F H : Hp} {d : D} {v : V} (h : RepB K F H d v) (c : D.cmpOk d = true) : SeqAt.shaped (toP d) = true := by
  cases d with
  | lst xs =>
    obtain ⟨a, vs, rfl, h2, h3⟩ := h
    have c' : D.plain (.lst xs) = true ∧ D.depth (.lst xs) ≤ 64 := by simpa [D.cmpOk] using c
    unfold SeqAt.shaped
    rw [depth_toP _ c'.1]
    simp only [toP, PyData.canLay0]
    rw [h3.lay (by simpa [D.plain] using c'.1)]
    simp [c'.2]
  | dct ks ds => simp [D.cmpOk, D.plain] at c
  | _ => exact Rep.shaped (K := K) (F := F) (v := v) h c
theorem cmpOk_plain {d : D} (c : D.cmpOk d = true) : D.plain d = true := by
  have c' : D.plain d = true ∧ D.depth d ≤ 64 := by simpa [D.cmpOk] using c
  exact c'.1

/-- what is wanted of a result -/
def OpPost (K : PySem.W.Frag) (F H : Hp) (rv : RV) (Q : VK) : Prop := match rv with
  | .v d => ∀ v F' H', GoN F H F' H' → Rep K F' d v → Q v H'
  | .o od => ∀ p H', H p = none → GoN F H F H' → OwnOk K F H' p od → Q (.ref p) H'

theorem strV_len (s : List Nat) : (⟨s.toArray⟩ : Str).length = s.length := by simp [Str.length]
theorem lim_eq : lim = sizeLine := by rw [sizeLine_eq]; rfl

def opOf : BOp → Operator
  | .add => .Add | .sub => .Sub | .mul => .Mult | .fdiv => .FloorDiv | .mod => .Mod | .pow => .Pow
section
variable {X : Cx} {F H : Hp} {Q : VK}
theorem post_v {K : PySem.W.Frag} {d : D} {v : V} (le : Le F H) (h : OpPost K F H (.v d) Q) (r : Rep K F d v) : Q v H := h v F H (GoN.refl le) r
theorem post_tup {K : PySem.W.Frag} {xs : List D} {vs : List V} (le : Le F H) (h : OpPost K F H (.v (.tup xs)) Q) (r : RepAll K F xs vs) {p : Addr} (hp : H p = none) : Q (.ref p) (upd H p (.tup vs)) := by
  refine h _ _ _ (GoN.both le hp (.tup vs)) ?_
  unfold Rep
  exact ⟨p, vs, rfl, upd_same, r.mono (GoN.both le hp (.tup vs)).mono⟩
theorem post_lst {K : PySem.W.Frag} {xs : List D} {vs : List V} (le : Le F H) (h : OpPost K F H (.o (.lst xs)) Q) (r : RepAll K F xs vs) {p : Addr} (hp : H p = none) : Q (.ref p) (upd H p (.lst vs)) :=
  h _ _ hp (GoN.one le hp _) ⟨vs, upd_same, r⟩
def rBin (K : PySem.W.Frag) (a b : D) (rv : RV) : R2 := fun x y H Q => ∃ F, Le F H ∧ RepB K F H a x ∧ RepB K F H b y ∧ OpPost K F H rv Q
theorem bin_ok {o : BOp} {a b : D} {rv : RV} (e : binOp o a b = some rv) : OpR X (binaryOp (opOf o)) (rBin X.K a b rv) := by
  intro pins s σ H x y v u Q I rx ry h
  obtain ⟨F, le, ra, rb, post⟩ := h
  unfold binOp at e
  split at e
  · -- int + int
    simp only [Option.some.injEq] at e; subst e
    simp only [RepB, Rep] at ra rb
    exact op_add pins s σ H x y v u Q I rx ry ⟨_, _, ra, rb, post_v le post (by unfold Rep; rfl)⟩
  · -- text + text
    rename_i xs ys
    split at e
    · rename_i hz
      simp only [Option.some.injEq] at e; subst e
      simp only [RepB, Rep] at ra rb
      refine op_add_str pins s σ H x y v u Q I rx ry ⟨_, _, ra.1, rb.1, by rw [strV_len, strV_len, ← lim_eq]; exact hz, ?_⟩
      refine post_v le post ?_
      unfold Rep
      refine ⟨?_, fun c hc => (List.mem_append.mp hc).elim (ra.2.1 c) (rb.2.1 c), by rw [List.length_append]; exact hz⟩
      show V.str (Str.append _ _) = _
      simp [Str.append]
    · cases e
  · -- list + list
    rename_i xs ys
    split at e
    · rename_i hz
      simp only [Option.some.injEq] at e; subst e
      obtain ⟨a1, vs, rfl, h1, h2⟩ := ra
      obtain ⟨b1, us, rfl, g1, g2⟩ := rb
      exact op_cat pins s σ H _ _ v u Q I rx ry ⟨a1, b1, vs, us, rfl, rfl, h1, g1, by rw [h2.len, g2.len, ← lim_eq]; exact hz, fun p hp => post_lst le post (h2.append g2) hp⟩
    · cases e
  · -- tuple + tuple
    rename_i xs ys
    split at e
    · rename_i hz
      simp only [Option.some.injEq] at e; subst e
      simp only [RepB, Rep] at ra rb
      obtain ⟨a1, vs, rfl, h1, h2⟩ := ra
      obtain ⟨b1, us, rfl, g1, g2⟩ := rb
      refine op_catA pins s σ H _ _ v u Q I rx ry ⟨a1, b1, vs, us, rfl, rfl, SqT.of (le _ _ h1), SqT.of (le _ _ g1), by rw [h2.len, g2.len, ← lim_eq]; exact hz, fun q => ?_, fun _ q => ?_, fun _ _ p hp => post_tup le post (h2.append g2) hp⟩
      · subst q
        have : xs = [] := by have := h2.len; simpa using this.symm
        subst this
        refine post_v le post ?_
        unfold Rep
        exact ⟨b1, us, rfl, g1, g2⟩
      · subst q
        have : ys = [] := by have := g2.len; simpa using this.symm
        subst this
        refine post_v le post ?_
        unfold Rep
        rw [List.append_nil]
        exact ⟨a1, vs, rfl, h1, h2⟩
    · cases e
  · simp only [Option.some.injEq] at e; subst e
    simp only [RepB, Rep] at ra rb
    exact op_sub pins s σ H x y v u Q I rx ry ⟨_, _, ra, rb, post_v le post (by unfold Rep; rfl)⟩
  · split at e
    · rename_i hz
      simp only [Option.some.injEq] at e; subst e
      simp only [RepB, Rep] at ra rb
      exact op_mul pins s σ H x y v u Q I rx ry ⟨_, _, ra, rb, .inl hz, post_v le post (by unfold Rep; rfl)⟩
    · cases e
  · -- text * int
    rename_i xs j
    split at e
    · rename_i hz
      simp only [Option.some.injEq] at e; subst e
      simp only [RepB, Rep] at ra rb
      obtain ⟨z1, z2, z3⟩ := hz
      obtain ⟨t, rfl⟩ : ∃ t, v = Value.str ⟨xs.toArray⟩ t := by rw [ra.1] at rx; exact rx
      obtain ⟨t', rfl⟩ : ∃ t', u = Value.int j t' := by rw [rb] at ry; exact ry
      have hsz : sizeLine = 16777216 := sizeLine_eq
      have hl : (⟨xs.toArray⟩ : Str).length = xs.length := strV_len xs
      have rep : ∀ {z : Str}, z = ⟨((List.replicate j.toNat xs).flatten).toArray⟩ → Rep X.K F (.str (List.replicate j.toNat xs).flatten) (V.str z) := fun {z} ez => by
        unfold Rep
        refine ⟨congrArg V.str ez, fun c hc => ?_, ?_⟩
        · obtain ⟨l, hl1, hl2⟩ := List.mem_flatten.mp hc
          exact ra.2.1 c (List.eq_of_mem_replicate hl1 ▸ hl2)
        · rw [List.length_flatten, List.map_replicate, List.sum_replicate_nat, Nat.mul_comm, lim_eq]
          omega
      have fin : ∀ {z : Str} {tk : Nat} {t3 : Tok}, z = ⟨((List.replicate j.toNat xs).flatten).toArray⟩ → EP X pins σ Q (.str z t3) { s with toks := tk } := fun {z tk t3} ez =>
        ⟨V.str z, H, I.tok tk, ⟨t3, rfl⟩, post_v le post (rep ez)⟩
      refine P.mul_str (by rw [decide_eq_false (by omega), decide_eq_false (by omega)]; rfl) (fun _ _ => ?_) (fun _ _ => ?_) ?_
      · rw [hl]
        intro hgt
        by_cases hx : xs.length = 0
        · rw [hx] at hgt
          have : (0 : Int) ≤ (2 ^ 63 - 1) / j := Int.ediv_nonneg (by decide) (by omega)
          omega
        · have h1 : xs.length ≤ 1000000 := by
            have : xs.length * 1 ≤ xs.length * j.toNat := Nat.mul_le_mul_left _ (by omega)
            omega
          have h2 : j.toNat ≤ 1000000 := by
            have : 1 * j.toNat ≤ xs.length * j.toNat := Nat.mul_le_mul_right _ (by omega)
            omega
          have h3 : (1000000 : Int) ≤ (2 ^ 63 - 1) / j := by
            refine (Int.le_ediv_iff_mul_le (by omega)).mpr ?_
            have : (1000000 : Int) * j ≤ 1000000 * 1000000 := Int.mul_le_mul_of_nonneg_left (by omega) (by decide)
            omega
          omega
      · rw [hl]
        show decide (xs.length * j.toNat > sizeLine) = false
        exact decide_eq_false (by omega)
      · by_cases h1 : j < 1
        · rw [if_pos h1]
          refine ⟨by rw [hsz]; decide, fin ?_⟩
          have : j.toNat = 0 := by omega
          rw [this]; rfl
        · rw [if_neg h1]
          by_cases h2 : (j == 1 || (⟨xs.toArray⟩ : Str).length == 0) = true
          · rw [if_pos h2]
            show EP X pins σ Q (.str _ t) s
            have ex : (⟨xs.toArray⟩ : Str) = ⟨((List.replicate j.toNat xs).flatten).toArray⟩ := by
              rw [Bool.or_eq_true] at h2
              rcases h2 with h2 | h2
              · have : j = 1 := by simpa using h2
                subst this
                simp
              · rw [hl] at h2
                have : xs = [] := by simpa using h2
                subst this
                simp
            exact ⟨V.str ⟨xs.toArray⟩, H, I, ⟨t, rfl⟩, post_v le post (rep ex)⟩
          · rw [if_neg h2]
            have ez : ∀ (n : Nat) (acc : List Nat), (List.replicate n xs.toArray).foldl (· ++ ·) acc.toArray = (acc ++ (List.replicate n xs).flatten).toArray := fun n => by
              induction n with
              | zero => intro acc; simp
              | succ n ih =>
                intro acc
                rw [List.replicate_succ, List.foldl_cons, List.replicate_succ, List.flatten_cons]
                have := ih (acc ++ xs)
                rw [List.append_assoc] at this
                rw [← this]
                simp
            have ez0 := ez j.toNat []
            rw [List.nil_append] at ez0
            refine ⟨?_, fin ?_⟩
            · show (Str.mk ((List.replicate j.toNat xs.toArray).foldl (· ++ ·) #[])).length ≤ sizeLine
              rw [show (#[] : Array Nat) = ([] : List Nat).toArray from rfl, ez0, strV_len, List.length_flatten, List.map_replicate, List.sum_replicate_nat]
              rw [Nat.mul_comm] at z1
              omega
            · show (Str.mk ((List.replicate j.toNat xs.toArray).foldl (· ++ ·) #[])) = _
              rw [show (#[] : Array Nat) = ([] : List Nat).toArray from rfl, ez0]
    · cases e
  · -- list * int
    split at e
    · rename_i hz
      simp only [Option.some.injEq] at e; subst e
      obtain ⟨a1, vs, rfl, h1, h2⟩ := ra
      simp only [RepB, Rep] at rb
      obtain ⟨z1, z2, z3⟩ := hz
      refine op_rep pins s σ H _ _ v u Q I rx ry ⟨a1, _, vs, rfl, rb, h1, by omega, by omega, by rw [h2.len, sizeLine_eq]; omega, fun p hp => ?_⟩
      exact post_lst le post (h2.repl _) hp
    · cases e
  · split at e
    · rename_i hz
      simp only [Option.some.injEq] at e; subst e
      simp only [RepB, Rep] at ra rb
      exact op_fdivN pins s σ H x y v u Q I rx ry ⟨_, _, ra, rb, hz, post_v le post (by unfold Rep; rfl)⟩
    · cases e
  · split at e
    · rename_i hz
      simp only [Option.some.injEq] at e; subst e
      simp only [RepB, Rep] at ra rb
      exact op_modN pins s σ H x y v u Q I rx ry ⟨_, _, ra, rb, hz, post_v le post (by unfold Rep; rfl)⟩
    · cases e
  · split at e
    · rename_i hz
      simp only [Option.some.injEq] at e; subst e
      simp only [RepB, Rep] at ra rb
      obtain ⟨z1, z2, z3⟩ := hz
      exact op_pow pins s σ H x y v u Q I rx ry ⟨_, _, ra, rb, ⟨z1, by omega, z3⟩, post_v le post (by unfold Rep; rfl)⟩
    · cases e
  · cases e
end

/-! ### comparisons -/
theorem eqv_toP_all : (∀ d e : D, D.plain d = true → D.plain e = true → PyData.eqv (toP d) (toP e) = D.eqv d e) ∧ (∀ ds es : List D, D.plainAll ds = true → D.plainAll es = true → PyData.eqvAll (toPs ds) (toPs es) = D.eqvAll ds es) := by
  have main : ∀ n : Nat, (∀ d e : D, sizeOf d ≤ n → D.plain d = true → D.plain e = true → PyData.eqv (toP d) (toP e) = D.eqv d e) ∧ (∀ ds es : List D, sizeOf ds ≤ n → D.plainAll ds = true → D.plainAll es = true → PyData.eqvAll (toPs ds) (toPs es) = D.eqvAll ds es) := by
    intro n
    induction n with
    | zero =>
      refine ⟨fun d e h => ?_, fun ds es h => ?_⟩
      · cases d <;> simp at h
      · cases ds <;> simp at h
    | succ n ih =>
      refine ⟨fun d e h pd pe => ?_, fun ds es h pd pe => ?_⟩
      · cases d <;> first | (simp [D.plain] at pd; done) | skip
        all_goals (cases e <;> first | (simp [D.plain] at pe; done) | skip)
        all_goals simp only [toP, PyData.eqv, D.eqv]
        case bl.int => rename_i a b; cases a <;> simp [b2i, Bool.beq_eq_decide_eq]
        case int.bl => rename_i a b; cases b <;> simp [b2i, Bool.beq_eq_decide_eq]
        case int.int => rename_i a b; rw [Bool.beq_eq_decide_eq]
        case str.str =>
          rename_i a b
          by_cases h1 : a = b
          · subst h1; simp
          · simp [h1]
        case lst.lst =>
          rename_i xs ys
          simp only [D.plain] at pd pe
          exact ih.2 xs ys (by simp at h; omega) pd pe
        case tup.tup =>
          rename_i xs ys
          simp only [D.plain] at pd pe
          exact ih.2 xs ys (by simp at h; omega) pd pe
      · cases ds with
        | nil => cases es <;> simp [toPs, PyData.eqvAll, D.eqvAll]
        | cons d ds =>
          cases es with
          | nil => simp [toPs, PyData.eqvAll, D.eqvAll]
          | cons e es =>
            have pd' : D.plain d = true ∧ D.plainAll ds = true := by simpa [D.plainAll] using pd
            have pe' : D.plain e = true ∧ D.plainAll es = true := by simpa [D.plainAll] using pe
            simp only [toPs, PyData.eqvAll, D.eqvAll]
            rw [ih.1 d e (by simp at h; omega) pd'.1 pe'.1, ih.2 ds es (by simp at h; omega) pd'.2 pe'.2]
  exact ⟨fun d e => (main (sizeOf d)).1 d e (Nat.le_refl _), fun ds es => (main (sizeOf ds)).2 ds es (Nat.le_refl _)⟩
theorem eqv_toP {d e : D} (pd : D.plain d = true) (pe : D.plain e = true) : PyData.eqv (toP d) (toP e) = D.eqv d e := eqv_toP_all.1 d e pd pe

def opC : COp → CmpOp
  | .eq => .Eq | .ne => .NotEq | .lt => .Lt | .le => .LtE | .gt => .Gt | .ge => .GtE | .is => .Is | .isNot => .IsNot | .isIn => .In | .notIn => .NotIn
def rCmp (K : PySem.W.Frag) (a b : D) (c : Bool) : R2 := fun x y H Q => ∃ F, Le F H ∧ RepB K F H a x ∧ RepB K F H b y ∧ Q (.bl c) H
theorem isNon_of {K : PySem.W.Frag} {F H : Hp} {d : D} {v : V} (h : RepB K F H d v) : decide (v = V.non) = isNon d := by
  cases d <;> simp only [RepB, Rep] at h <;> unfold isNon
  case non => subst h; rfl
  case bl => subst h; rfl
  case int => subst h; rfl
  case str => rw [h.1]; rfl
  case lst => obtain ⟨a, vs, rfl, _⟩ := h; rfl
  case tup => obtain ⟨a, vs, rfl, _⟩ := h; rfl
  case dct => obtain ⟨a, rfl, _⟩ := h; rfl
  case scr => obtain ⟨a, rfl, _⟩ := h; rfl
theorem any_toP {K : PySem.W.Frag} {a : D} (pa : D.plain a = true) : ∀ ys : List D, D.plainAll ys = true → ((toPs ys).any fun z => PyData.eqv z (toP a)) = ys.any fun z => D.eqv z a
  | [], _ => rfl
  | y :: ys, p => by
    have p' : D.plain y = true ∧ D.plainAll ys = true := by simpa [D.plainAll] using p
    rw [toPs, List.any_cons, List.any_cons, eqv_toP p'.1 pa, any_toP (K := K) pa ys p'.2]
section
variable {X : Cx}
theorem cmp_ok (hu : X.A.units + 65 < cLine) {o : COp} {a b : D} {c : Bool} (e : cmpOp o a b = some c) : OpR X (compareOp (opC o)) (rCmp X.K a b c) := by
  intro pins s σ H x y v u Q I rx ry h
  obtain ⟨F, le, ra, rb, post⟩ := h
  have theInts : ∀ {i j : Int} {p : Int → Int → Bool}, a = .int i → b = .int j → x = .int i ∧ y = .int j := fun {i j p} ea eb => by
    subst ea eb
    simp only [RepB, Rep] at ra rb
    exact ⟨ra, rb⟩
  have inL : ∀ {ys : List D}, b = .lst ys → D.cmpOk a = true → D.cmpOk b = true →
      wpAny (model X.prog X.w) X.A (compareOp .In v u) (EP X pins σ fun v' H' => v' = V.bl (ys.any fun z => D.eqv z a) ∧ H' = H) X.xe s ∧ wpAny (model X.prog X.w) X.A (compareOp .NotIn v u) (EP X pins σ fun v' H' => v' = V.bl (!ys.any fun z => D.eqv z a) ∧ H' = H) X.xe s := fun {ys} eb c1 c2 => by
    subst eb
    have d1 := ra.dp le (cmpOk_plain c1)
    have d2 := rb.dp le (cmpOk_plain c2)
    rw [← any_toP (K := X.K) (cmpOk_plain c1) ys (by simpa [D.plain] using cmpOk_plain c2)]
    exact ⟨op_inD hu pins s σ H x y v u _ I rx ry ⟨_, _, d1, (by unfold toP at d2; exact d2), ra.shaped c1, (by have := rb.shaped c2; unfold toP at this; exact this), rfl, rfl⟩,
      op_notInD hu pins s σ H x y v u _ I rx ry ⟨_, _, d1, (by unfold toP at d2; exact d2), ra.shaped c1, (by have := rb.shaped c2; unfold toP at this; exact this), rfl, rfl⟩⟩
  have inT : ∀ {ys : List D}, b = .tup ys → D.cmpOk a = true → D.cmpOk b = true →
      wpAny (model X.prog X.w) X.A (compareOp .In v u) (EP X pins σ fun v' H' => v' = V.bl (ys.any fun z => D.eqv z a) ∧ H' = H) X.xe s ∧ wpAny (model X.prog X.w) X.A (compareOp .NotIn v u) (EP X pins σ fun v' H' => v' = V.bl (!ys.any fun z => D.eqv z a) ∧ H' = H) X.xe s := fun {ys} eb c1 c2 => by
    subst eb
    have d1 := ra.dp le (cmpOk_plain c1)
    have d2 := rb.dp le (cmpOk_plain c2)
    have s1 := ra.shaped c1
    have s2 := rb.shaped c2
    obtain ⟨as, r1⟩ := Dp.reads I _ x v d1 rx
    obtain ⟨bs, r2⟩ := Dp.reads I _ y u d2 ry
    rw [← any_toP (K := X.K) (cmpOk_plain c1) ys (by simpa [D.plain] using cmpOk_plain c2)]
    unfold toP at r2 s2
    have q2 : PyData.canLayAll0 (toPs ys) = true := by simpa [SeqAt.shaped, PyData.canLay0] using (Bool.and_eq_true_iff.mp s2).1
    have q1 := SeqAt.canLay_of_shaped s1
    have room : X.A.units + 1 + min (PyData.depthAll (toPs ys)) (toP a).depth < cLine := by
      have : (toP a).depth ≤ 64 := by simpa [SeqAt.shaped] using (Bool.and_eq_true_iff.mp s1).2
      omega
    exact ⟨SeqAt.in_tuple_reads r2 r1 q2 q1 room ⟨.bl _, H, I, rfl, rfl, rfl⟩, SeqAt.notIn_tuple_reads r2 r1 q2 q1 room ⟨.bl _, H, I, rfl, rfl, rfl⟩⟩
  have fin : ∀ {t : Sem Value} {d : Bool}, wpAny (model X.prog X.w) X.A t (EP X pins σ fun v' H' => v' = V.bl d ∧ H' = H) X.xe s → d = c → wpAny (model X.prog X.w) X.A t (EP X pins σ Q) X.xe s := fun {t d} hw ed => by
    subst ed
    refine thn hw fun v' s' hv => ?_
    obtain ⟨v2, H2, J, r, rfl, rfl⟩ := hv
    exact ⟨_, _, J, r, post⟩
  cases o <;> simp only [cmpOp] at e <;> simp only [opC]
  case eq =>
    split at e
    · rename_i hc
      obtain ⟨c1, c2⟩ := Bool.and_eq_true_iff.mp hc
      simp only [Option.some.injEq] at e
      refine op_eqD (by omega) pins s σ H x y v u Q I rx ry ⟨_, _, ra.dp le (cmpOk_plain c1), rb.dp le (cmpOk_plain c2), ra.shaped c1, rb.shaped c2, ?_⟩
      rw [eqv_toP (cmpOk_plain c1) (cmpOk_plain c2), e]
      exact post
    · cases e
  case ne =>
    split at e
    · rename_i hc
      obtain ⟨c1, c2⟩ := Bool.and_eq_true_iff.mp hc
      simp only [Option.some.injEq] at e
      refine op_neD (by omega) pins s σ H x y v u Q I rx ry ⟨_, _, ra.dp le (cmpOk_plain c1), rb.dp le (cmpOk_plain c2), ra.shaped c1, rb.shaped c2, ?_⟩
      rw [eqv_toP (cmpOk_plain c1) (cmpOk_plain c2), e]
      exact post
    · cases e
  case lt =>
    split at e
    · simp only [Option.some.injEq] at e
      obtain ⟨rfl, rfl⟩ := theInts (p := fun _ _ => true) rfl rfl
      exact op_lt pins s σ H _ _ v u Q I rx ry ⟨_, _, rfl, rfl, by simp only []; rw [e]; exact post⟩
    · cases e
  case le =>
    split at e
    · simp only [Option.some.injEq] at e
      obtain ⟨rfl, rfl⟩ := theInts (p := fun _ _ => true) rfl rfl
      exact op_le pins s σ H _ _ v u Q I rx ry ⟨_, _, rfl, rfl, by simp only []; rw [e]; exact post⟩
    · cases e
  case gt =>
    split at e
    · simp only [Option.some.injEq] at e
      obtain ⟨rfl, rfl⟩ := theInts (p := fun _ _ => true) rfl rfl
      exact op_gt pins s σ H _ _ v u Q I rx ry ⟨_, _, rfl, rfl, by simp only []; rw [e]; exact post⟩
    · cases e
  case ge =>
    split at e
    · simp only [Option.some.injEq] at e
      obtain ⟨rfl, rfl⟩ := theInts (p := fun _ _ => true) rfl rfl
      exact op_ge pins s σ H _ _ v u Q I rx ry ⟨_, _, rfl, rfl, by simp only []; rw [e]; exact post⟩
    · cases e
  case is =>
    split at e
    · simp only [Option.some.injEq] at e
      simp only [RepB, Rep] at rb
      exact op_isN pins s σ H _ _ v u Q I rx ry ⟨rb, by rw [isNon_of ra, e]; exact post⟩
    · simp only [Option.some.injEq] at e
      simp only [RepB, Rep] at ra rb
      exact op_isBl pins s σ H _ _ v u Q I rx ry ⟨_, _, ra, rb, by rw [← Bool.beq_eq_decide_eq, e]; exact post⟩
    · cases e
  case isNot =>
    split at e
    · simp only [Option.some.injEq] at e
      simp only [RepB, Rep] at rb
      exact op_notN pins s σ H _ _ v u Q I rx ry ⟨rb, by rw [isNon_of ra, e]; exact post⟩
    · simp only [Option.some.injEq] at e
      simp only [RepB, Rep] at ra rb
      exact op_notBl pins s σ H _ _ v u Q I rx ry ⟨_, _, ra, rb, by rw [← Bool.beq_eq_decide_eq, e]; exact post⟩
    · cases e
  case isIn =>
    split at e
    · split at e
      · rename_i hc
        obtain ⟨c1, c2⟩ := Bool.and_eq_true_iff.mp hc
        exact fin (inL rfl c1 c2).1 (by simpa using e)
      · cases e
    · split at e
      · rename_i hc
        obtain ⟨c1, c2⟩ := Bool.and_eq_true_iff.mp hc
        exact fin (inT rfl c1 c2).1 (by simpa using e)
      · cases e
    · split at e
      · unfold isInS at e
        split at e
        · rename_i c0
          simp only [Option.some.injEq] at e
          simp only [RepB, Rep] at ra rb
          exact op_in_sign pins s σ H _ _ v u Q I rx ry ⟨c0, _, ra.1, rb.1, by subst e; simpa using post⟩
        · cases e
      · cases e
    · cases e
  case notIn =>
    split at e
    · split at e
      · rename_i hc
        obtain ⟨c1, c2⟩ := Bool.and_eq_true_iff.mp hc
        exact fin (inL rfl c1 c2).2 (by simpa using e)
      · cases e
    · split at e
      · rename_i hc
        obtain ⟨c1, c2⟩ := Bool.and_eq_true_iff.mp hc
        exact fin (inT rfl c1 c2).2 (by simpa using e)
      · cases e
    · split at e
      · unfold isInS at e
        split at e
        · rename_i c0
          simp only [Option.map_some, Option.some.injEq] at e
          simp only [RepB, Rep] at ra rb
          exact op_notIn_sign pins s σ H _ _ v u Q I rx ry ⟨c0, _, ra.1, rb.1, by subst e; simpa using post⟩
        · cases e
      · cases e
    · cases e
end

/-! ### index, slice -/
theorem ixOf_eq (n : Nat) (i : Int) : ixOf n i = ixN n i := rfl
def rIdx (K : PySem.W.Frag) (a i d : D) : R2 := fun x y H Q => ∃ F, Le F H ∧ RepB K F H a x ∧ Rep K F i y ∧ (∀ v, Rep K F d v → Q v H)
theorem cutL_eq {α : Type} (xs : List α) (lo hi : Option Int) : cutL xs lo hi = (xs.drop (HT.sIx xs.length 0 lo)).take (HT.sIx xs.length xs.length hi - HT.sIx xs.length 0 lo) := by
  have c : ∀ (n : Nat) (i : Int), clip n i = if i < 0 then (i + n).toNat else min i.toNat n := fun n i => by
    unfold clip
    by_cases h : 0 ≤ i
    · rw [if_pos h, if_neg (by omega)]
    · rw [if_neg h, if_pos (by omega)]
  unfold cutL
  cases lo <;> cases hi <;> simp only [HT.sIx, c]
theorem rep_cut {K : PySem.W.Frag} {F : Hp} {ds : List D} {vs : List V} (h : RepAll K F ds vs) (lo hi : Option Int) : RepAll K F (cutL ds lo hi) (cutV vs lo hi) := by
  rw [cutL_eq]
  unfold cutV
  rw [h.len]
  exact (h.drop _).take _
section
variable {X : Cx}
theorem idx_ok {a i d : D} (e : idxOp a i = some d) : IxR X (rIdx X.K a i d) := by
  intro value slice pins s σ H x y v u Q I rx ry h hs
  obtain ⟨F, le, ra, ri, post⟩ := h
  unfold idxOp at e
  split at e
  · rename_i xs k
    obtain ⟨j, e1, e2⟩ := Option.bind_eq_some_iff.mp e
    obtain ⟨p, vs, rfl, h1, h2⟩ := ra
    unfold Rep at ri
    obtain ⟨w, g1, g2⟩ := h2.get e2
    exact ix_list value slice pins s σ H _ y v u Q I rx ry ⟨p, vs, k, w, rfl, ri, SqL.of h1, by unfold atI; rw [h2.len, ← ixOf_eq, e1]; exact g1, post w g2⟩ hs
  · rename_i xs k
    obtain ⟨j, e1, e2⟩ := Option.bind_eq_some_iff.mp e
    simp only [RepB, Rep] at ra
    obtain ⟨p, vs, rfl, h1, h2⟩ := ra
    unfold Rep at ri
    obtain ⟨w, g1, g2⟩ := h2.get e2
    exact ix_tup value slice pins s σ H _ y v u Q I rx ry ⟨p, vs, k, w, rfl, ri, SqT.of (le _ _ h1), by unfold atI; rw [h2.len, ← ixOf_eq, e1]; exact g1, post w g2⟩ hs
  · rename_i ns k
    obtain ⟨j, e1, e2⟩ := Option.bind_eq_some_iff.mp e
    simp only [RepB, Rep] at ra
    obtain ⟨p, rfl, h1⟩ := ra
    unfold Rep at ri
    cases q : ns[j]? with
    | none => rw [q] at e2; cases e2
    | some n =>
      rw [q] at e2
      simp only [Option.map_some, Option.some.injEq] at e2
      subst e2
      exact ix_list value slice pins s σ H _ y v u Q I rx ry ⟨p, _, k, .int n, rfl, ri, le.sql h1, by unfold atI; rw [List.length_map, ← ixOf_eq, e1]; simp [q], post _ (by unfold Rep; rfl)⟩ hs
  · rename_i z k
    obtain ⟨j, e1, e2⟩ := Option.bind_eq_some_iff.mp e
    simp only [RepB, Rep] at ra
    unfold Rep at ri
    cases q : z[j]? with
    | none => rw [q] at e2; cases e2
    | some n =>
      rw [q] at e2
      simp only [Option.map_some, Option.some.injEq] at e2
      subst e2
      refine ix_str value slice pins s σ H _ y v u Q I rx ry ⟨_, k, n, ra.1, ri, by rw [strV_len, ← lim_eq]; exact ra.2.2, ?_, post _ ?_⟩ hs
      · unfold atI
        simp only []
        rw [← ixOf_eq, e1]
        simpa using q
      · unfold Rep
        refine ⟨rfl, fun c hc => ?_, by simp [lim]⟩
        simp at hc
        subst hc
        exact ra.2.1 _ (List.mem_of_getElem? q)
  · cases e
def rSlc (K : PySem.W.Frag) (a : D) (lo hi : Option Int) (rv : RV) : V → Option Int → Option Int → Hp → VK → Prop := fun x l h H Q => ∃ F, Le F H ∧ RepB K F H a x ∧ l = lo ∧ h = hi ∧ OpPost K F H rv Q
theorem slc_ok {a : D} {l h : Option Int} {rv : RV} (e : slcOp a l h = some rv) : SlR X (rSlc X.K a l h rv) := by
  intro pins s σ H x v vl vu l' h' sl Q I rx hs pl pu hw
  obtain ⟨F, le, ra, rfl, rfl, post⟩ := hw
  unfold slcOp at e
  split at e
  · rename_i xs
    simp only [Option.some.injEq] at e; subst e
    obtain ⟨p, vs, rfl, h1, h2⟩ := ra
    exact sl_list pins s σ H _ v vl vu _ _ sl Q I rx hs pl pu ⟨p, vs, rfl, SqL.of h1, fun p hp => post_lst le post (rep_cut h2 _ _) hp⟩
  · rename_i xs
    simp only [Option.some.injEq] at e; subst e
    simp only [RepB, Rep] at ra
    obtain ⟨p, vs, rfl, h1, h2⟩ := ra
    refine sl_tupA pins s σ H _ v vl vu _ _ sl Q I rx hs pl pu ⟨p, vs, rfl, SqT.of (le _ _ h1), fun hq => ?_, fun _ p hp => post_tup le post (rep_cut h2 _ _) hp⟩
    refine post_v le post ?_
    have : cutL xs l' h' = xs := by
      rw [cutL_eq, ← h2.len, hq.1, hq.2]
      simp [h2.len]
    rw [this]
    unfold Rep
    exact ⟨p, vs, rfl, h1, h2⟩
  · rename_i z
    simp only [Option.some.injEq] at e; subst e
    simp only [RepB, Rep] at ra
    refine sl_str pins s σ H _ v vl vu _ _ sl Q I rx hs pl pu ⟨_, ra.1, by rw [strV_len, ← lim_eq]; exact ra.2.2, ?_⟩
    refine post_v le post ?_
    unfold Rep
    refine ⟨?_, fun c hc => ra.2.1 c ?_, ?_⟩
    · rw [cutL_eq]
      unfold cutS
      rw [strV_len]
    · rw [cutL_eq] at hc
      exact List.mem_of_mem_drop (List.mem_of_mem_take hc)
    · rw [cutL_eq, List.length_take, List.length_drop]
      have := ra.2.2
      omega
  · cases e
end
end Py

/-! Prims: built-in functions on values that stand for data. -/
namespace Py
open PySem PySem.Spec PyProof.Rows L2

/-! ### repr -/
mutual
/-- data, empty dicts among them -/
def D.data : D → Bool
  | .lst xs => D.datas xs
  | .tup xs => D.datas xs
  | .obj _ _ => false
  | .scr _ => false
  | _ => true
def D.datas : List D → Bool
  | [] => true
  | x :: xs => D.data x && D.datas xs
end
def shownD (d : D) : List Nat := (PyData.shown (toP d)).cps.toList
def showOk (d : D) : Bool := D.data d && (PyData.showable (toP d) && (decide (PyData.depth (toP d) ≤ 64) && (!(D.hasD d && D.hasL d) && (decide ((shownD d).length ≤ 1000000) && (shownD d).all (· < 0x110000)))))
def thePar : Par := ⟨fun d => if showOk d then some (shownD d) else none⟩

section
variable {X : Cx} {pins : List (Addr × Obj)} {σ : L2.St} {F H : Hp} {s : Shared}
mutual
theorem Rep.reads (I : Inv X pins σ H s) (le : Le F H) : ∀ (d : D) (v : V) (u : Value), Rep X.K F d v → RelV v u → D.data d = true → ∃ as, Reads s.heap u (toP d) as ∧ (D.hasL d = false → sysModules ∉ as)
  | .non, _, _, h, r, _ => by
    unfold Rep at h; subst h; cases r
    exact ⟨_, .none, fun _ => by simp⟩
  | .bl b, _, _, h, r, _ => by
    unfold Rep at h; subst h; cases r
    exact ⟨_, .bool b, fun _ => by simp⟩
  | .int i, _, _, h, r, _ => by
    unfold Rep at h; subst h
    obtain ⟨t, rfl⟩ := r
    exact ⟨_, .int i t, fun _ => by simp⟩
  | .str z, _, _, h, r, _ => by
    unfold Rep at h
    rw [h.1] at r
    obtain ⟨t, rfl⟩ := r
    exact ⟨_, .str _ t, fun _ => by simp⟩
  | .lst xs, _, _, h, r, p => by
    unfold Rep at h
    obtain ⟨a, vs, rfl, h2, h3⟩ := h
    cases r
    obtain ⟨its, rv, ⟨o, n, ho, hc, _, hd⟩, _⟩ := I.list (SqL.of (le _ _ h2))
    obtain ⟨as, hr, _⟩ := RepAll.reads I le xs vs its h3 rv (by simpa [D.data] using p)
    unfold toP
    exact ⟨_, .list ho hc hd hr, fun q => by simp [D.hasL] at q⟩
  | .tup xs, _, _, h, r, p => by
    unfold Rep at h
    obtain ⟨a, vs, rfl, h2, h3⟩ := h
    cases r
    obtain ⟨its, rv, ⟨o, ho, hc, n, hd⟩, _⟩ := I.tuple (SqT.of (le _ _ h2))
    obtain ⟨as, hr, hs⟩ := RepAll.reads I le xs vs its h3 rv (by simpa [D.data] using p)
    unfold toP
    exact ⟨_, .tuple ho hc hd hr, fun q => hs (by simpa [D.hasL] using q)⟩
  | .dct ks ds, _, _, h, r, _ => by
    unfold Rep at h
    obtain ⟨a, rfl, h2, rfl, rfl⟩ := h
    cases r
    obtain ⟨_, hns, vs, hv, hd⟩ := I.hok a _ (le _ _ h2)
    cases hv
    obtain ⟨o, es, ep, ho, hx, hd, _, hc, _⟩ := hd
    have e0 : es.toList = [] := List.length_eq_zero_iff.mp (by have := hc.length; simpa using this)
    unfold toP
    refine ⟨_, .dict (as := []) (bs := []) ho hx.1 hd (by rw [e0]; exact .nil) (by rw [e0]; exact .nil), fun _ => ?_⟩
    simp only [List.append_nil, List.mem_singleton]
    intro q
    rw [← q] at hns
    simp at hns
  | .obj _ _, _, _, _, _, p => by simp [D.data] at p
  | .scr _, _, _, _, _, p => by simp [D.data] at p
theorem RepAll.reads (I : Inv X pins σ H s) (le : Le F H) : ∀ (ds : List D) (vs : List V) (us : List Value), RepAll X.K F ds vs → Vals vs us → D.datas ds = true → ∃ as, ReadsAll s.heap us (toPs ds) as ∧ (D.hasLs ds = false → sysModules ∉ as)
  | [], _, _, h, r, _ => by
    rw [h.inv0] at r
    cases r
    exact ⟨_, .nil, fun _ => by simp⟩
  | d :: ds, _, _, h, r, p => by
    obtain ⟨v, vr, rfl, h1, h2⟩ := h.inv
    have p' : D.data d = true ∧ D.datas ds = true := by simpa [D.datas] using p
    cases r with
    | cons r1 r2 =>
      obtain ⟨as, q1, k1⟩ := Rep.reads I le d _ _ h1 r1 p'.1
      obtain ⟨bs, q2, k2⟩ := RepAll.reads I le ds _ _ h2 r2 p'.2
      unfold toPs
      refine ⟨_, .cons q1 q2, fun q => ?_⟩
      have q' : D.hasL d = false ∧ D.hasLs ds = false := by simpa [D.hasLs] using q
      simp only [List.mem_append, not_or]
      exact ⟨k1 q'.1, k2 q'.2⟩
end
theorem RepB.reads (I : Inv X pins σ H s) (le : Le F H) {d : D} {v : V} {u : Value} (h : RepB X.K F H d v) (r : RelV v u) (p : D.data d = true) : ∃ as, Reads s.heap u (toP d) as ∧ (D.hasL d = false → sysModules ∉ as) := by
  cases d with
  | lst xs =>
    obtain ⟨a, vs, rfl, h2, h3⟩ := h
    cases r
    obtain ⟨its, rv, ⟨o, n, ho, hc, _, hd⟩, _⟩ := I.list (SqL.of h2)
    obtain ⟨as, hr, _⟩ := RepAll.reads I le xs vs its h3 rv (by simpa [D.data] using p)
    unfold toP
    exact ⟨_, .list ho hc hd hr, fun q => by simp [D.hasL] at q⟩
  | dct ks ds =>
    obtain ⟨a, rfl, h2, rfl, rfl⟩ := h
    refine Rep.reads (F := H) I (Le.refl _) (.dct [] []) (.ref a) u ?_ r rfl
    unfold Rep
    exact ⟨a, rfl, h2, rfl, rfl⟩
  | _ => exact Rep.reads I le _ v u h r p
mutual
theorem hasDict_toP : ∀ d : D, D.data d = true → PyData.hasDict (toP d) = true → D.hasD d = true
  | .non, _, h => by simp [toP, PyData.hasDict] at h
  | .bl _, _, h => by simp [toP, PyData.hasDict] at h
  | .int _, _, h => by simp [toP, PyData.hasDict] at h
  | .str _, _, h => by simp [toP, PyData.hasDict] at h
  | .lst xs, p, h => by
    simp only [toP, PyData.hasDict] at h
    exact hasDict_toPs xs (by simpa [D.data] using p) h
  | .tup xs, p, h => by
    simp only [toP, PyData.hasDict] at h
    exact hasDict_toPs xs (by simpa [D.data] using p) h
  | .dct _ _, _, _ => rfl
  | .obj _ _, p, _ => by simp [D.data] at p
  | .scr _, p, _ => by simp [D.data] at p
theorem hasDict_toPs : ∀ ds : List D, D.datas ds = true → PyData.hasDictAll (toPs ds) = true → D.hasDs ds = true
  | [], _, h => by simp [toPs, PyData.hasDictAll] at h
  | d :: ds, p, h => by
    have p' : D.data d = true ∧ D.datas ds = true := by simpa [D.datas] using p
    simp only [toPs, PyData.hasDictAll, Bool.or_eq_true] at h
    simp only [D.hasDs, Bool.or_eq_true]
    exact h.imp (hasDict_toP d p'.1) (hasDict_toPs ds p'.2)
end
end

/-! ### one argument -/
def p1V : P1 → Value
  | .abs => .builtin "abs"
  | .int => .type "int"
  | .len => .builtin "len"
  | .list => .type "list"
  | .tuple => .type "tuple"
  | .sum => .builtin "sum"
  | .all => .builtin "all"
  | .any => .builtin "any"
  | .repr => .builtin "repr"
  | .sorted => .builtin "sorted"
  | .sortedSet => .builtin "sorted"
  | .lenSet => .builtin "len"
/-- the built-in alone, no set within -/
def p1Plain : P1 → Bool
  | .sortedSet => false
  | .lenSet => false
  | _ => true
def rP1 (K : PySem.W.Frag) (a : D) (rv : RV) : List V → Hp → VK → Prop := fun xs H Q => ∃ F x, xs = [x] ∧ Le F H ∧ RepB K F H a x ∧ OpPost K F H rv Q
theorem p1_ok {X : Cx} (hc : X.calm = true) (hg : X.A.guards = some []) (hu : X.A.units + 70 < cLine) {p : P1} {a : D} {rv : RV} (hp : p1Plain p = true) (e : p1Op thePar p a = some rv) : CallR X (p1V p) (rP1 X.K a rv) := by
  intro pins s σ H xs us Q I r h
  obtain ⟨F, x, rfl, le, ra, post⟩ := h
  unfold p1Op at e
  split at e <;> simp only [p1V] <;> try (simp [p1Plain] at hp; done)
  · simp only [Option.some.injEq] at e; subst e
    rename_i i
    simp only [RepB, Rep] at ra
    refine call_abs pins s σ H _ us Q I r ⟨i, by rw [ra], post_v le post ?_⟩
    unfold Rep
    congr 1
    by_cases h : i < 0
    · rw [if_pos h]; omega
    · rw [if_neg h]; omega
  · simp only [Option.some.injEq] at e; subst e
    simp only [RepB, Rep] at ra
    exact call_int1 pins s σ H _ us Q I r (.inl ⟨_, by rw [ra], post_v le post (by unfold Rep; rfl)⟩)
  · simp only [Option.some.injEq] at e; subst e
    simp only [RepB, Rep] at ra
    exact call_int1 pins s σ H _ us Q I r (.inr ⟨_, by rw [ra], post_v le post (by unfold Rep b2i; rfl)⟩)
  · simp only [Option.some.injEq] at e; subst e
    obtain ⟨p, vs, rfl, h1, h2⟩ := ra
    exact call_len_seq pins s σ H _ us Q I r ⟨p, vs, rfl, .inl (SqL.of h1), post_v le post (by unfold Rep; rw [h2.len])⟩
  · simp only [Option.some.injEq] at e; subst e
    simp only [RepB, Rep] at ra
    obtain ⟨p, vs, rfl, h1, h2⟩ := ra
    exact call_len_seq pins s σ H _ us Q I r ⟨p, vs, rfl, .inr (SqT.of (le _ _ h1)), post_v le post (by unfold Rep; rw [h2.len])⟩
  · simp only [Option.some.injEq] at e; subst e
    simp only [RepB, Rep] at ra
    exact call_len_str pins s σ H _ us Q I r ⟨_, by rw [ra.1], by rw [strV_len, ← lim_eq]; exact ra.2.2, post_v le post (by unfold Rep; rw [strV_len])⟩
  · simp only [Option.some.injEq] at e; subst e
    simp only [RepB, Rep] at ra
    obtain ⟨p, rfl, h1⟩ := ra
    exact call_len_seq pins s σ H _ us Q I r ⟨p, _, rfl, .inl (le.sql h1), post_v le post (by unfold Rep; rw [List.length_map])⟩
  · simp only [Option.some.injEq] at e; subst e
    obtain ⟨p, rfl, h1, rfl, rfl⟩ := ra
    exact call_lenD pins s σ H _ us Q I r ⟨p, [], rfl, h1, post_v le post (by unfold Rep; rfl)⟩
  · simp only [Option.some.injEq] at e; subst e
    obtain ⟨p, vs, rfl, h1, h2⟩ := ra
    exact call_list_of pins s σ H _ us Q I r ⟨p, vs, rfl, .inl (SqL.of h1), fun l hl => post_lst le post h2 hl⟩
  · simp only [Option.some.injEq] at e; subst e
    simp only [RepB, Rep] at ra
    obtain ⟨p, vs, rfl, h1, h2⟩ := ra
    exact call_list_of pins s σ H _ us Q I r ⟨p, vs, rfl, .inr (SqT.of (le _ _ h1)), fun l hl => post_lst le post h2 hl⟩
  · simp only [Option.some.injEq] at e; subst e
    obtain ⟨p, vs, rfl, h1, h2⟩ := ra
    exact call_tuple_of pins s σ H _ us Q I r ⟨p, vs, rfl, .inl ⟨SqL.of h1, fun l hl => post_tup le post h2 hl⟩⟩
  · split at e
    · rename_i is hi
      simp only [Option.some.injEq] at e; subst e
      obtain ⟨p, vs, rfl, h1, h2⟩ := ra
      have := h2.ints hi
      subst this
      exact cr_sum hc pins s σ H _ us Q I r ⟨p, is, rfl, SqL.of h1, post_v le post (by unfold Rep; rfl)⟩
    · cases e
  · split at e
    · rename_i is hi
      simp only [Option.some.injEq] at e; subst e
      obtain ⟨p, vs, rfl, h1, h2⟩ := ra
      have := h2.bools hi
      subst this
      exact cr_all hc pins s σ H _ us Q I r ⟨p, is, rfl, SqL.of h1, post_v le post (by unfold Rep; rfl)⟩
    · cases e
  · split at e
    · rename_i is hi
      simp only [Option.some.injEq] at e; subst e
      obtain ⟨p, vs, rfl, h1, h2⟩ := ra
      have := h2.bools hi
      subst this
      exact cr_any hc pins s σ H _ us Q I r ⟨p, is, rfl, SqL.of h1, post_v le post (by unfold Rep; rfl)⟩
    · cases e
  · -- repr
    split at e
    · rename_i z hz
      simp only [Option.some.injEq] at e; subst e
      simp only [thePar] at hz
      split at hz
      · rename_i ok
        simp only [Option.some.injEq] at hz
        subst hz
        unfold showOk at ok
        simp only [Bool.and_eq_true, decide_eq_true_eq, Bool.not_eq_true'] at ok
        obtain ⟨k1, k2, k3, k4, k5, k6⟩ := ok
        obtain ⟨u, rfl, ru⟩ := r.one
        obtain ⟨as, rd, hs⟩ := ra.reads I le ru k1
        have hlen : (PyData.shown (toP a)).length ≤ sizeLine := by
          have : (PyData.shown (toP a)).length = (shownD a).length := by simp [shownD, Str.length]
          rw [this, sizeLine_eq]; omega
        have hsm : (toP a).hasDict = true → sysModules ∉ as := fun q => hs (by
          have := hasDict_toP a k1 q
          rw [this] at k4
          simpa using k4)
        have rp : Rep X.K F (.str (shownD a)) (V.str (PyData.shown (toP a))) := by
          unfold Rep shownD
          refine ⟨by simp, fun c hc => ?_, ?_⟩
          · have := List.all_eq_true.mp k6 c hc
            simpa using this
          · have : (PyData.shown (toP a)).cps.toList.length = (shownD a).length := rfl
            rw [this]; unfold lim; omega
        have fin : ∀ {z : Str} {t : Tok} {s' : Shared}, z = PyData.shown (toP a) → Inv X pins σ H s' → EP X pins σ Q (.str z t) s' := fun {z t s'} ez J => by
          subst ez
          exact ⟨V.str _, H, J, ⟨t, rfl⟩, post_v le post rp⟩
        cases a with
        | non =>
          cases rd
          exact PySem.P.repr_of_none (fin (by simp [toP, PyData.shown]) (I.tok _))
        | bl b =>
          cases rd
          exact PySem.P.repr_of_bool (fin (by cases b <;> simp [toP, PyData.shown]) (I.tok _))
        | int i =>
          cases rd
          exact PySem.P.repr_of_int (by simpa [toP, PyData.showable] using k2) (fin (by simp [toP, PyData.shown]) (I.tok _))
        | str z =>
          cases rd
          exact PySem.P.repr_of_str (fin (by simp [toP, PyData.shown]) (I.tok _)) (by simpa [toP, PyData.shown] using hlen)
        | lst xs =>
          obtain ⟨p, vs, rfl, _⟩ := ra
          cases ru
          exact repr_of_reads' rd k2 hsm hg (by omega) (fun _ _ q => q) (fun h' u tk hk => fin rfl (I.kept (t' := tk) hk)) hlen
        | tup xs =>
          simp only [RepB, Rep] at ra
          obtain ⟨p, vs, rfl, _⟩ := ra
          cases ru
          exact repr_of_reads' rd k2 hsm hg (by omega) (fun _ _ q => q) (fun h' u tk hk => fin rfl (I.kept (t' := tk) hk)) hlen
        | dct ks ds =>
          obtain ⟨p, rfl, _⟩ := ra
          cases ru
          exact repr_of_reads' rd k2 hsm hg (by omega) (fun _ _ q => q) (fun h' u tk hk => fin rfl (I.kept (t' := tk) hk)) hlen
        | obj _ _ => simp [D.data] at k1
        | scr _ => simp [D.data] at k1
      · cases hz
    · cases e
  · cases e
def p2V : P2 → Value
  | .divmod => .builtin "divmod"
  | .max => .builtin "max"
def rP2 (K : PySem.W.Frag) (a b : D) (rv : RV) : List V → Hp → VK → Prop := fun xs H Q => ∃ F x y, xs = [x, y] ∧ Le F H ∧ Rep K F a x ∧ Rep K F b y ∧ OpPost K F H rv Q
theorem p2_ok {X : Cx} (hc : X.calm = true) {p : P2} {a b : D} {rv : RV} (e : p2Op p a b = some rv) : CallR X (p2V p) (rP2 X.K a b rv) := by
  intro pins s σ H xs us Q I r h
  obtain ⟨F, x, y, rfl, le, ra, rb, post⟩ := h
  unfold p2Op at e
  split at e <;> simp only [p2V]
  · split at e
    · rename_i hz
      simp only [Option.some.injEq] at e; subst e
      unfold Rep at ra rb
      subst ra rb
      refine call_divmod pins s σ H _ us Q I r ⟨_, _, rfl, hz, fun p hp => post_tup le post (.cons ?_ (.cons ?_ .nil)) hp⟩ <;> (unfold Rep; rfl)
    · cases e
  · simp only [Option.some.injEq] at e; subst e
    unfold Rep at ra rb
    subst ra rb
    exact call_max2 hc pins s σ H _ us Q I r ⟨_, _, rfl, post_v le post (by unfold Rep; rfl)⟩
  · cases e
end Py

/-! Shown: what repr can show. -/
namespace Py
open PySem PySem.Spec PyProof.Rows L2
/-- a text: its length, its signs -/
structure Bd (n : Nat) (s : Str) : Prop where
  len : s.cps.toList.length ≤ n
  cps : ∀ c ∈ s.cps.toList, c < 0x110000
theorem Bd.app {n m : Nat} {a b : Str} (h : Bd n a) (h2 : Bd m b) : Bd (n + m) (a ++ b) := by
  have e : (a ++ b).cps.toList = a.cps.toList ++ b.cps.toList := by
    show (a.cps ++ b.cps).toList = _
    simp
  exact ⟨by rw [e, List.length_append]; have := h.len; have := h2.len; omega, fun c hc => by
    rw [e] at hc
    exact (List.mem_append.mp hc).elim (h.cps c) (h2.cps c)⟩
theorem Bd.le {n m : Nat} {a : Str} (h : Bd n a) (l : n ≤ m) : Bd m a := ⟨Nat.le_trans h.len l, h.cps⟩
def bdC (n : Nat) (s : Str) : Bool := decide (s.cps.toList.length ≤ n) && s.cps.toList.all (· < 0x110000)
theorem bd_of {n : Nat} {s : Str} (h : bdC n s = true) : Bd n s := by
  unfold bdC at h
  simp only [Bool.and_eq_true, decide_eq_true_eq, List.all_eq_true] at h
  exact ⟨h.1, fun c hc => by simpa using h.2 c hc⟩
theorem bd_char (q : Nat) (hq : q = 39 ∨ q = 34) : ∀ c, c < 128 → ∀ x ∈ Builtin.Str.reprChar q c, x < 0x110000 := by
  have t : ((List.range 128).all fun c => (Builtin.Str.reprChar 39 c).all (· < 0x110000) && (Builtin.Str.reprChar 34 c).all (· < 0x110000)) = true := by decide +kernel
  intro c hc x hx
  have := List.all_eq_true.mp t c (List.mem_range.mpr hc)
  rw [Bool.and_eq_true] at this
  rcases hq with rfl | rfl
  · simpa using List.all_eq_true.mp this.1 x hx
  · simpa using List.all_eq_true.mp this.2 x hx
theorem quote_of (x : Str) : reprQuote x = 39 ∨ reprQuote x = 34 := by
  unfold reprQuote
  split
  · exact .inr rfl
  · exact .inl rfl
theorem bd_repr (s : List Nat) (h : s.all (· < 128) = true) : Bd (10 * s.length + 2) (reprText ⟨s.toArray⟩) := by
  have h' : ∀ c ∈ s, c < 128 := fun c hc => by simpa using List.all_eq_true.mp h c hc
  refine ⟨?_, ?_⟩
  · have := StrLaws.reprText_len ⟨s.toArray⟩ fun c hc => Nat.lt_trans (h' c (by simpa using hc)) (by decide)
    have e1 : (reprText ⟨s.toArray⟩).length = (reprText ⟨s.toArray⟩).cps.toList.length := by simp [Str.length]
    have e2 : (⟨s.toArray⟩ : Str).length = s.length := by simp [Str.length]
    rw [e1, e2] at this
    exact this
  · have q := quote_of ⟨s.toArray⟩
    unfold reprText
    generalize reprQuote ⟨s.toArray⟩ = qq at q
    have fold : ∀ (l : List Nat) (acc : Array Nat), (∀ c ∈ l, c < 128) → (∀ c ∈ acc.toList, c < 0x110000) → ∀ c ∈ (l.foldl (fun out c => out ++ (Builtin.Str.reprChar qq c).toArray) acc).toList, c < 0x110000 := by
      intro l
      induction l with
      | nil => intro acc _ h2; exact h2
      | cons x l ih =>
        intro acc h1 h2
        refine ih _ (fun c hc => h1 c (List.mem_cons_of_mem _ hc)) fun c hc => ?_
        have hc' : c ∈ acc.toList ++ Builtin.Str.reprChar qq x := by simpa using hc
        rcases List.mem_append.mp hc' with z | z
        · exact h2 c z
        · exact bd_char qq q x (h1 x List.mem_cons_self) c z
    have hq : qq < 0x110000 := by rcases q with rfl | rfl <;> decide
    intro c hc
    have hc' : c ∈ (s.foldl (fun out c => out ++ (Builtin.Str.reprChar qq c).toArray) #[qq]).toList ∨ c = qq := by
      have e : ((⟨s.toArray⟩ : Str).cps.foldl (fun out c => out ++ (Builtin.Str.reprChar qq c).toArray) #[qq]) = s.foldl (fun out c => out ++ (Builtin.Str.reprChar qq c).toArray) #[qq] := by simp
      rw [e] at hc
      simpa using hc
    rcases hc' with z | z
    · exact fold s #[qq] h' (fun c hc => by
        have e : c = qq := by simpa using hc
        rw [e]; exact hq) c z
    · rw [z]; exact hq
theorem bd_int (i : Int) (h1 : -100 ≤ i) (h2 : i ≤ 100) : Bd 40 (PyData.shown (.int i)) ∧ PyData.showable (.int i) = true := by
  have t : ((List.range 201).all fun k => bdC 40 (PyData.shown (.int ((k : Int) - 100))) && PyData.showable (.int ((k : Int) - 100))) = true := by decide +kernel
  have := List.all_eq_true.mp t (i + 100).toNat (List.mem_range.mpr (by omega))
  have e : (((i + 100).toNat : Nat) : Int) - 100 = i := by omega
  rw [e, Bool.and_eq_true] at this
  exact ⟨bd_of this.1, this.2⟩
inductive Bds : Nat → List Str → Prop where
  | nil : Bds 0 []
  | cons {n m : Nat} {s : Str} {r : List Str} (h : Bd n s) (t : Bds m r) : Bds (n + 2 + m) (s :: r)
theorem bd_from {n : Nat} {ts : List Str} (h : Bds n ts) : ∀ (k m : Nat) (acc : Str), Bd m acc → Bd (m + n) (textFrom k acc ts) := by
  induction h with
  | nil => intro k m acc h; exact h
  | @cons n1 m1 s r h t ih =>
    intro k m acc ha
    have c : Bd 2 (if k > 0 then ", " else "" : String) := by split <;> exact bd_of (by decide +kernel)
    have := ih (k + 1) _ _ ((ha.app c).app h)
    exact this.le (by omega)
theorem bd_list {n : Nat} {ts : List Str} (h : Bds n ts) : Bd (n + 4) (listText ts) := by
  have := (bd_from h 0 1 "[" (bd_of (by decide +kernel))).app (b := "]") (m := 1) (bd_of (by decide +kernel))
  exact this.le (by omega)
theorem bd_join {n : Nat} {ts : List Str} (h : Bds n ts) : Bd n (Str.join ", " ts) := by
  induction h with
  | nil => exact bd_of (by decide +kernel)
  | @cons n1 m1 s r h t ih =>
    cases r with
    | nil =>
      show Bd _ s
      exact h.le (by omega)
    | cons u r =>
      have := (h.app (b := ", ") (m := 2) (bd_of (by decide +kernel))).app ih
      exact this
theorem bd_tup {n : Nat} {ts : List Str} (h : Bds n ts) : Bd (n + 4) (tupleText ts) := by
  have c : Bd 2 (if ts.length == 1 then ",)" else ")" : String) := by split <;> exact bd_of (by decide +kernel)
  have := ((bd_of (s := "(") (n := 1) (by decide +kernel)).app (bd_join h)).app c
  exact this.le (by omega)
mutual
theorem safe_ok : ∀ d : D, safe d = true → D.data d = true ∧ PyData.showable (toP d) = true ∧ Bd (wt d) (PyData.shown (toP d)) ∧ PyData.depth (toP d) ≤ D.depth d + 1
  | .non, _ => ⟨rfl, by simp [toP, PyData.showable], by simp only [toP, PyData.shown]; exact bd_of (by decide +kernel), by simp [toP, PyData.depth]⟩
  | .bl b, _ => ⟨rfl, by simp [toP, PyData.showable], by simp only [toP, PyData.shown]; cases b <;> exact bd_of (by decide +kernel), by simp [toP, PyData.depth]⟩
  | .int i, h => by
    simp only [safe, Bool.and_eq_true, decide_eq_true_eq] at h
    obtain ⟨a, b⟩ := bd_int i h.1 h.2
    exact ⟨rfl, by simpa only [toP] using b, by simpa only [toP, wt] using a, by simp [toP, PyData.depth]⟩
  | .str s, h => by
    simp only [safe, Bool.and_eq_true] at h
    refine ⟨rfl, by simp [toP, PyData.showable], ?_, by simp [toP, PyData.depth]⟩
    simp only [toP, PyData.shown, wt]
    exact bd_repr s h.1
  | .lst xs, h => by
    obtain ⟨a, b, c, d⟩ := safes_ok xs (by simpa only [safe] using h)
    refine ⟨by simpa only [D.data] using a, by simpa only [toP, PyData.showable] using b, ?_, ?_⟩
    · simp only [toP, PyData.shown, wt]
      exact bd_list c
    · simp only [toP, PyData.depth, D.depth]
      omega
  | .tup xs, h => by
    obtain ⟨a, b, c, d⟩ := safes_ok xs (by simpa only [safe] using h)
    refine ⟨by simpa only [D.data] using a, by simpa only [toP, PyData.showable] using b, ?_, ?_⟩
    · simp only [toP, PyData.shown, wt]
      exact bd_tup c
    · simp only [toP, PyData.depth, D.depth]
      omega
  | .dct ks vs, _ => ⟨rfl, by simp [toP, PyData.showable, PyData.showableKv], by simp only [toP, PyData.shown, PyData.shownKv]; exact (show Bd 5 _ from bd_of (by decide +kernel)), by simp [toP, PyData.depth, PyData.depthKv]⟩
  | .obj c fs, h => by simp [safe] at h
  | .scr ns, h => by simp [safe] at h
theorem safes_ok : ∀ ds : List D, safeAll ds = true → D.datas ds = true ∧ PyData.showableAll (toPs ds) = true ∧ Bds (wtAll ds) (PyData.shownAll (toPs ds)) ∧ PyData.depthAll (toPs ds) ≤ D.depthAll ds + 1
  | [], _ => ⟨rfl, by simp [toPs, PyData.showableAll], by simp only [toPs, PyData.shownAll, wtAll]; exact .nil, by simp [toPs, PyData.depthAll]⟩
  | d :: ds, h => by
    simp only [safeAll, Bool.and_eq_true] at h
    obtain ⟨a1, b1, c1, d1⟩ := safe_ok d h.1
    obtain ⟨a2, b2, c2, d2⟩ := safes_ok ds h.2
    refine ⟨by simp [D.datas, a1, a2], by simp [toPs, PyData.showableAll, b1, b2], ?_, ?_⟩
    · simp only [toPs, PyData.shownAll, wtAll]
      exact .cons c1 c2
    · simp only [toPs, PyData.depthAll, D.depthAll]
      omega
end
theorem sm_shown (v : D) (h : Showy v = true) : ∃ s, thePar.sh v = some s := by
  unfold Showy at h
  simp only [Bool.and_eq_true, decide_eq_true_eq, Bool.not_eq_true'] at h
  obtain ⟨h1, h2, h3, h4⟩ := h
  obtain ⟨a, b, c, d⟩ := safe_ok v h1
  have e : showOk v = true := by
    unfold showOk shownD
    simp only [Bool.and_eq_true, decide_eq_true_eq, Bool.not_eq_true', List.all_eq_true]
    refine ⟨a, b, by omega, h4, ?_, fun x hx => by simpa using c.cps x hx⟩
    have := c.len
    omega
  exact ⟨shownD v, by simp [thePar, e]⟩
end Py

/-! State: the slots of a def over the heap, and how a step may change both. -/
namespace Py
open PySem PySem.Spec PyProof.Rows L2

def SlotOk (K : PySem.W.Frag) (F H : Hp) : Slot → Option (Option V) → Prop
  | .un, _ => True
  | .fz d, q => ∃ v, q = some (some v) ∧ Rep K F d v
  | .own o, q => ∃ p, q = some (some (.ref p)) ∧ F p = none ∧ OwnOk K F H p o
  | .exc _, _ => False
def Owns (env : Env) (σ : L2.St) (p : Addr) : Prop := ∃ (i : Nat) (o : OD), env[i]? = some (.own o) ∧ σ[i]? = some (some (V.ref p))
structure Rel (K : PySem.W.Frag) (F H : Hp) (σ : L2.St) (env : Env) : Prop where
  le : Le F H
  len : env.length = σ.length
  slot : ∀ (i : Nat) (s : Slot), env[i]? = some s → SlotOk K F H s σ[i]?
  apart : ∀ (i j : Nat) (oi oj : OD) (p : Addr), env[i]? = some (.own oi) → env[j]? = some (.own oj) → σ[i]? = some (some (V.ref p)) → σ[j]? = some (some (V.ref p)) → i = j
/-- what a step may do: what is frozen stays, what is tracked and not owned stays -/
structure Go (F H F' H' : Hp) (own : Addr → Prop) : Prop where
  mono : Le F F'
  keep : ∀ a o, H a = some o → ¬ own a → H' a = some o
  new : ∀ a o, F' a = some o → F a = some o ∨ H a = none ∨ own a
  dom : ∀ a o, H a = some o → ∃ o', H' a = some o'
/-- no slot becomes an owner -/
def Sub (env' env : Env) : Prop := ∀ (i : Nat) (o : OD), env'[i]? = some (.own o) → ∃ o', env[i]? = some (.own o')

section
variable {K : PySem.W.Frag} {F H F1 H1 F2 H2 : Hp} {σ : L2.St} {env env1 env2 : Env} {own own1 : Addr → Prop}
theorem Sub.refl (env : Env) : Sub env env := fun _ o h => ⟨o, h⟩
theorem Sub.trans (a : Sub env2 env1) (b : Sub env1 env) : Sub env2 env := fun i o h => let ⟨o', h'⟩ := a i o h; b i o' h'
theorem Sub.owns (a : Sub env1 env) {p : Addr} (h : Owns env1 σ p) : Owns env σ p := by
  obtain ⟨i, o, h1, h2⟩ := h
  obtain ⟨o', h3⟩ := a i o h1
  exact ⟨i, o', h3, h2⟩
theorem Go.refl (F H : Hp) (own : Addr → Prop) : Go F H F H own := ⟨Le.refl _, fun _ _ h _ => h, fun _ _ h => .inl h, fun _ o h => ⟨o, h⟩⟩
theorem Go.trans (a : Go F H F1 H1 own) (b : Go F1 H1 F2 H2 own1) (s : ∀ p, own1 p → own p) : Go F H F2 H2 own where
  mono := a.mono.trans b.mono
  keep := fun p o h n => b.keep p o (a.keep p o h n) fun q => n (s p q)
  new := fun p o h => by
    rcases b.new p o h with h | h | h
    · exact a.new p o h
    · cases q : H p with
      | none => exact .inr (.inl rfl)
      | some u =>
        obtain ⟨u', e⟩ := a.dom p u q
        rw [h] at e; cases e
    · exact .inr (.inr (s p h))
  dom := fun p o h => let ⟨o', h'⟩ := a.dom p o h; b.dom p o' h'
theorem Go.weak (a : Go F H F1 H1 own) (s : ∀ p, own p → own1 p) : Go F H F1 H1 own1 :=
  ⟨a.mono, fun p o h n => a.keep p o h fun q => n (s p q), fun p o h => (a.new p o h).imp_right fun z => z.imp_right (s p), a.dom⟩
theorem GoN.go (a : GoN F H F1 H1) (own : Addr → Prop) : Go F H F1 H1 own :=
  ⟨a.mono, fun p o h _ => a.keep p o h, fun p o h => (a.new p o h).imp_right .inl, fun p o h => ⟨o, a.keep p o h⟩⟩
theorem Rel.owned (r : Rel K F H σ env) {p : Addr} (h : Owns env σ p) : F p = none ∧ ∃ o, H p = some o := by
  obtain ⟨i, o, h1, h2⟩ := h
  obtain ⟨p', e, h3, h4⟩ := r.slot i _ h1
  rw [h2] at e
  cases e
  exact ⟨h3, h4.there⟩
/-- new objects alone -/
theorem Rel.goN (r : Rel K F H σ env) (g : GoN F H F1 H1) : Rel K F1 H1 σ env where
  le := g.le
  len := r.len
  slot := fun i s h => by
    have q := r.slot i s h
    cases s with
    | un => exact True.intro
    | fz d => obtain ⟨v, e, h⟩ := q; exact ⟨v, e, h.mono g.mono⟩
    | own o =>
      obtain ⟨p, e, h1, h2⟩ := q
      refine ⟨p, e, ?_, h2.go g.mono fun o h => g.keep p o h⟩
      cases q : F1 p with
      | none => rfl
      | some u =>
        rcases g.new p u q with z | z
        · rw [h1] at z; cases z
        · obtain ⟨o', ho⟩ := h2.there
          rw [z] at ho; cases ho
    | exc x => exact q
  apart := r.apart
/-- a value at hand -/
def RVok (K : PySem.W.Frag) (F H : Hp) (σ : L2.St) (env : Env) : RV → V → Prop
  | .v d, v => Rep K F d v
  | .o od, v => ∃ p, v = .ref p ∧ F p = none ∧ OwnOk K F H p od ∧ ¬ Owns env σ p
/-- where a new object comes from -/
def Org (H : Hp) (own : Addr → Prop) : RV → V → Prop
  | .v _, _ => True
  | .o _, v => ∀ p, v = .ref p → H p = none ∨ own p
/-- freezing the object at p, which nobody owns -/
theorem Rel.freeze (r : Rel K F H σ env) {p : Addr} {o : HO} (hp : H p = some o) (hn : ¬ Owns env σ p) : Rel K (upd F p o) H σ env where
  le := fun a u h => by
    by_cases e : a = p
    · subst e; rw [upd_same] at h; rw [← h]; exact hp
    · rw [upd_ne e] at h; exact r.le _ _ h
  len := r.len
  slot := fun i s h => by
    have q := r.slot i s h
    have m : F p = none → Le F (upd F p o) := fun hF a u q => by rw [upd_ne (ne_of_none q hF)]; exact q
    have m' : Le F (upd F p o) := fun a u q => by
      by_cases e : a = p
      · subst e
        rw [upd_same]
        have := r.le _ _ q
        rw [hp] at this
        exact this
      · rw [upd_ne e]; exact q
    cases s with
    | un => exact True.intro
    | fz d => obtain ⟨v, e, h⟩ := q; exact ⟨v, e, h.mono m'⟩
    | own od =>
      obtain ⟨p', e, h1, h2⟩ := q
      have ne : p' ≠ p := fun z => hn ⟨i, od, h, by rw [← z]; exact e⟩
      exact ⟨p', e, by rw [upd_ne ne]; exact h1, h2.go m' fun _ q => q⟩
    | exc x => exact q
  apart := r.apart
theorem Go.freeze {p : Addr} {o : HO} (hp : H p = some o) (le : Le F H) (own : Addr → Prop) (ho : own p) : Go F H (upd F p o) H own where
  mono := fun a u q => by
    by_cases e : a = p
    · subst e
      rw [upd_same]
      have := le _ _ q
      rw [hp] at this
      exact this
    · rw [upd_ne e]; exact q
  keep := fun _ _ h _ => h
  new := fun a u h => by
    by_cases e : a = p
    · subst e; exact .inr (.inr ho)
    · rw [upd_ne e] at h; exact .inl h
  dom := fun _ o h => ⟨o, h⟩
/-- slot i is changed: to what is known of it -/
theorem Rel.setSlot (r : Rel K F H σ env) {i : Nat} {s : Slot} (h : SlotOk K F H s σ[i]?) (ha : ∀ (o : OD) (p : Addr), s = .own o → σ[i]? = some (some (V.ref p)) → ∀ (j : Nat) (oj : OD), j ≠ i → env[j]? = some (.own oj) → σ[j]? ≠ some (some (V.ref p))) : Rel K F H σ (env.set i s) where
  le := r.le
  len := by rw [List.length_set]; exact r.len
  slot := fun j t q => by
    by_cases e : i = j
    · subst e
      by_cases hl : i < env.length
      · rw [List.getElem?_set_self hl] at q; cases q; exact h
      · rw [List.getElem?_eq_none (by simpa using hl)] at q; cases q
    · rw [List.getElem?_set_ne e] at q; exact r.slot j t q
  apart := fun j k oj ok p h1 h2 h3 h4 => by
    by_cases ej : i = j
    · by_cases ek : i = k
      · omega
      · subst ej
        by_cases hl : i < env.length
        · rw [List.getElem?_set_self hl] at h1
          rw [List.getElem?_set_ne ek] at h2
          cases h1
          exact absurd h4 (ha oj p rfl h3 k ok (fun z => ek z.symm) h2)
        · rw [List.getElem?_eq_none (by simpa using hl)] at h1; cases h1
    · by_cases ek : i = k
      · subst ek
        by_cases hl : i < env.length
        · rw [List.getElem?_set_self hl] at h2
          rw [List.getElem?_set_ne ej] at h1
          cases h2
          exact absurd h3 (ha ok p rfl h4 j oj (fun z => ej z.symm) h1)
        · rw [List.getElem?_eq_none (by simpa using hl)] at h2; cases h2
      · rw [List.getElem?_set_ne ej] at h1
        rw [List.getElem?_set_ne ek] at h2
        exact r.apart j k oj ok p h1 h2 h3 h4
theorem sub_set {i : Nat} {s : Slot} (h : ∀ o, s = .own o → ∃ o', env[i]? = some (.own o')) : Sub (env.set i s) env := fun j o q => by
  by_cases e : i = j
  · subst e
    by_cases hl : i < env.length
    · rw [List.getElem?_set_self hl] at q; cases q; exact h o rfl
    · rw [List.getElem?_eq_none (by simpa using hl)] at q; cases q
  · rw [List.getElem?_set_ne e] at q; exact ⟨o, q⟩
/-- the object at an owned slot is changed -/
theorem Rel.write (r : Rel K F H σ env) {i : Nat} {p : Addr} {o od : OD} {ho : HO} (he : env[i]? = some (.own o)) (hs : σ[i]? = some (some (V.ref p))) (hod : OwnOk K F (upd H p ho) p od) : Rel K F (upd H p ho) σ (env.set i (.own od)) := by
  have hF : F p = none := (r.owned ⟨i, o, he, hs⟩).1
  have k : ∀ a u, a ≠ p → H a = some u → upd H p ho a = some u := fun a u ne h => by rw [upd_ne ne]; exact h
  have r1 : Rel K F (upd H p ho) σ (env.set i .un) := by
    refine ⟨fun a u h => k a u (ne_of_none h hF) (r.le _ _ h), by rw [List.length_set]; exact r.len, fun j s q => ?_, fun j l oj ol q h1 h2 h3 h4 => ?_⟩
    · by_cases e : i = j
      · subst e
        by_cases hl : i < env.length
        · rw [List.getElem?_set_self hl] at q; cases q; exact True.intro
        · rw [List.getElem?_eq_none (by simpa using hl)] at q; cases q
      · rw [List.getElem?_set_ne e] at q
        have z := r.slot j s q
        cases s with
        | un => exact True.intro
        | fz d => exact z
        | own oj =>
          obtain ⟨p', e1, h1, h2⟩ := z
          have ne : p' ≠ p := fun z => e (r.apart i j o oj p he q hs (by rw [← z]; exact e1))
          exact ⟨p', e1, h1, h2.go (Le.refl _) fun u h => k p' u ne h⟩
        | exc x => exact z
    · by_cases ej : i = j
      · subst ej
        by_cases hl : i < env.length
        · rw [List.getElem?_set_self hl] at h1; cases h1
        · rw [List.getElem?_eq_none (by simpa using hl)] at h1; cases h1
      · by_cases el : i = l
        · subst el
          by_cases hl : i < env.length
          · rw [List.getElem?_set_self hl] at h2; cases h2
          · rw [List.getElem?_eq_none (by simpa using hl)] at h2; cases h2
        · rw [List.getElem?_set_ne ej] at h1
          rw [List.getElem?_set_ne el] at h2
          exact r.apart j l oj ol q h1 h2 h3 h4
  have e2 : env.set i (.own od) = (env.set i .un).set i (.own od) := by rw [List.set_set]
  rw [e2]
  refine r1.setSlot ⟨p, hs, hF, hod⟩ fun o' p' eo ep j oj hj q hq => ?_
  rw [hs] at ep
  cases ep
  rw [List.getElem?_set_ne (fun z => hj z.symm)] at q
  exact hj (r.apart j i oj o p q he hq hs)
theorem Go.write {i : Nat} {p : Addr} {ho : HO} {o : OD} (r : Rel K F H σ env) (he : env[i]? = some (.own o)) (hs : σ[i]? = some (some (V.ref p))) : Go F H F (upd H p ho) (Owns env σ) where
  mono := Le.refl _
  keep := fun a u h n => by rw [upd_ne (fun z => n (by rw [z]; exact ⟨i, o, he, hs⟩))]; exact h
  new := fun _ _ h => .inl h
  dom := fun a u h => by
    by_cases e : a = p
    · subst e; exact ⟨ho, upd_same⟩
    · exact ⟨u, by rw [upd_ne e]; exact h⟩
/-- a value at hand stays so over a later step -/
theorem RVok.go {H0 : Hp} {rv : RV} {v : V} (h : RVok K F1 H1 σ env1 rv v) (r2 : Rel K F2 H2 σ env2) (g : Go F1 H1 F2 H2 (Owns env1 σ)) (s : Sub env2 env1) : RVok K F2 H2 σ env2 rv v := by
  cases rv with
  | v d => exact Rep.mono g.mono h
  | o od =>
    obtain ⟨p, e, h1, h2, h3⟩ := h
    refine ⟨p, e, ?_, h2.go g.mono fun o q => g.keep p o q h3, fun q => h3 (s.owns q)⟩
    cases q : F2 p with
    | none => rfl
    | some u =>
      rcases g.new p u q with z | z | z
      · rw [h1] at z; cases z
      · obtain ⟨o', ho⟩ := h2.there
        rw [z] at ho; cases ho
      · exact absurd z h3
/-- a new object is frozen -/
theorem RVok.frz {rv : RV} {v : V} {d : D} (h : RVok K F H σ env rv v) (r : Rel K F H σ env) (e : frz rv = some d) (own : Addr → Prop) (ho : Org H1 own rv v) (g : Go F1 H1 F H own) :
    ∃ F', Rel K F' H σ env ∧ Go F1 H1 F' H own ∧ Rep K F' d v ∧ Le F F' := by
  cases rv with
  | v d' =>
    simp only [Py.frz, Option.some.injEq] at e
    subst e
    exact ⟨F, r, g, h, Le.refl _⟩
  | o od =>
    obtain ⟨p, rfl, h1, h2, h3⟩ := h
    obtain ⟨o, hp, rp⟩ := h2.freeze e h1
    have m : Le F (upd F p o) := fun a u q => by rw [upd_ne (ne_of_none q h1)]; exact q
    refine ⟨upd F p o, r.freeze hp h3, ⟨g.mono.trans m, g.keep, fun a u q => ?_, g.dom⟩, rp, m⟩
    by_cases ea : a = p
    · subst ea
      exact .inr (ho _ rfl)
    · rw [upd_ne ea] at q; exact g.new a u q

/-- own may grow by what the start did not have -/
theorem Go.transW (a : Go F H F1 H1 own) (b : Go F1 H1 F2 H2 own1) (s : ∀ p, own1 p → H p = none ∨ own p) : Go F H F2 H2 own where
  mono := a.mono.trans b.mono
  keep := fun p o h n => b.keep p o (a.keep p o h n) fun q => by
    rcases s p q with z | z
    · rw [h] at z; cases z
    · exact n z
  new := fun p o h => by
    rcases b.new p o h with h | h | h
    · exact a.new p o h
    · cases q : H p with
      | none => exact .inr (.inl rfl)
      | some u =>
        obtain ⟨u', e⟩ := a.dom p u q
        rw [h] at e; cases e
    · exact .inr (s p h)
  dom := fun p o h => let ⟨o', h'⟩ := a.dom p o h; b.dom p o' h'
/-- a name is stored: a frozen value -/
theorem Rel.store (r : Rel K F H σ env) {i : Nat} {d : D} {v : V} (h : Rep K F d v) : Rel K F H (σ.set i (some v)) (env.set i (.fz d)) where
  le := r.le
  len := by rw [List.length_set, List.length_set]; exact r.len
  slot := fun j s q => by
    by_cases e : i = j
    · subst e
      by_cases hl : i < env.length
      · rw [List.getElem?_set_self hl] at q
        cases q
        exact ⟨v, by rw [List.getElem?_set_self (by rw [← r.len]; exact hl)], h⟩
      · rw [List.getElem?_eq_none (by simpa using hl)] at q; cases q
    · rw [List.getElem?_set_ne e] at q ⊢
      exact r.slot j s q
  apart := fun j l oj ol p h1 h2 h3 h4 => by
    have ne : ∀ {x : Nat} {o : OD}, (env.set i (.fz d))[x]? = some (.own o) → i ≠ x := fun {x o} hx e => by
      subst e
      by_cases hl : i < env.length
      · rw [List.getElem?_set_self hl] at hx; cases hx
      · rw [List.getElem?_eq_none (by simpa using hl)] at hx; cases hx
    have nj := ne h1
    have nl := ne h2
    rw [List.getElem?_set_ne nj] at h1 h3
    rw [List.getElem?_set_ne nl] at h2 h4
    exact r.apart j l oj ol p h1 h2 h3 h4
theorem owns_store {i : Nat} {d : D} {v : V} {p : Addr} (h : Owns (env.set i (.fz d)) (σ.set i (some v)) p) : Owns env σ p := by
  obtain ⟨j, o, h1, h2⟩ := h
  have ne : i ≠ j := fun e => by
    subst e
    by_cases hl : i < env.length
    · rw [List.getElem?_set_self hl] at h1; cases h1
    · rw [List.getElem?_eq_none (by simpa using hl)] at h1; cases h1
  rw [List.getElem?_set_ne ne] at h1 h2
  exact ⟨j, o, h1, h2⟩
/-- a name is stored: a new object -/
theorem Rel.keepO (r : Rel K F H σ env) {i : Nat} {od : OD} {p : Addr} (h1 : F p = none) (h2 : OwnOk K F H p od) (h3 : ¬ Owns env σ p) : Rel K F H (σ.set i (some (V.ref p))) (env.set i (.own od)) where
  le := r.le
  len := by rw [List.length_set, List.length_set]; exact r.len
  slot := fun j s q => by
    by_cases e : i = j
    · subst e
      by_cases hl : i < env.length
      · rw [List.getElem?_set_self hl] at q
        cases q
        exact ⟨p, by rw [List.getElem?_set_self (by rw [← r.len]; exact hl)], h1, h2⟩
      · rw [List.getElem?_eq_none (by simpa using hl)] at q; cases q
    · rw [List.getElem?_set_ne e] at q ⊢
      exact r.slot j s q
  apart := fun j l oj ol p' e1 e2 e3 e4 => by
    have self : ∀ {o : OD}, (env.set i (.own od))[i]? = some (.own o) → (σ.set i (some (V.ref p)))[i]? = some (some (V.ref p')) → p' = p := fun {o} hx hy => by
      by_cases hl : i < env.length
      · rw [List.getElem?_set_self (by rw [← r.len]; exact hl)] at hy; cases hy; rfl
      · rw [List.getElem?_eq_none (by simpa using hl)] at hx; cases hx
    by_cases ej : i = j
    · by_cases el : i = l
      · omega
      · subst ej
        have := self e1 e3
        subst this
        rw [List.getElem?_set_ne el] at e2 e4
        exact absurd ⟨l, ol, e2, e4⟩ h3
    · by_cases el : i = l
      · subst el
        have := self e2 e4
        subst this
        rw [List.getElem?_set_ne ej] at e1 e3
        exact absurd ⟨j, oj, e1, e3⟩ h3
      · rw [List.getElem?_set_ne ej] at e1 e3
        rw [List.getElem?_set_ne el] at e2 e4
        exact r.apart j l oj ol p' e1 e2 e3 e4
theorem owns_keep {i : Nat} {od : OD} {q p : Addr} (h : Owns (env.set i (.own od)) (σ.set i (some (V.ref q))) p) : p = q ∨ Owns env σ p := by
  obtain ⟨j, o, h1, h2⟩ := h
  by_cases e : i = j
  · subst e
    by_cases hl : i < σ.length
    · rw [List.getElem?_set_self hl] at h2; cases h2; exact .inl rfl
    · rw [List.getElem?_eq_none (by simpa using hl)] at h2; cases h2
  · rw [List.getElem?_set_ne e] at h1 h2
    exact .inr ⟨j, o, h1, h2⟩
/-- an object that nobody knows of is laid or changed -/
theorem Rel.off (r : Rel K F H σ env) {a : Addr} {o : HO} (h1 : F a = none) (h2 : ¬ Owns env σ a) : Rel K F (upd H a o) σ env where
  le := fun p u h => by rw [upd_ne (ne_of_none h h1)]; exact r.le _ _ h
  len := r.len
  slot := fun i s h => by
    have q := r.slot i s h
    cases s with
    | un => exact True.intro
    | fz d => exact q
    | own od =>
      obtain ⟨p, e, h3, h4⟩ := q
      have ne : p ≠ a := fun z => h2 ⟨i, od, h, by rw [← z]; exact e⟩
      exact ⟨p, e, h3, h4.go (Le.refl _) fun u q => by rw [upd_ne ne]; exact q⟩
    | exc x => exact q
  apart := r.apart
theorem Go.off {a : Addr} {o : HO} (g : Go F H F1 H1 own) (h : H a = none) : Go F H F1 (upd H1 a o) own where
  mono := g.mono
  keep := fun p u q n => by rw [upd_ne (fun z => by rw [z, h] at q; cases q)]; exact g.keep p u q n
  new := g.new
  dom := fun p u q => by
    by_cases e : p = a
    · subst e; exact ⟨o, upd_same⟩
    · rw [upd_ne e]; exact g.dom p u q
/-- slots forgotten -/
theorem wipeS_len : ∀ (vs : List Nat) (env : Env), (wipeS vs env).length = env.length
  | [], _ => rfl
  | v :: vs, env => by rw [wipeS, wipeS_len vs, List.length_set]
theorem wipeS_out {i : Nat} : ∀ {vs : List Nat} {env : Env}, i ∉ vs → (wipeS vs env)[i]? = env[i]?
  | [], _, _ => rfl
  | v :: vs, env, h => by
    have h1 : v ≠ i := fun e => h (by rw [e]; exact List.mem_cons_self)
    have h2 : i ∉ vs := fun m => h (List.mem_cons_of_mem _ m)
    rw [wipeS, wipeS_out h2, List.getElem?_set_ne h1]
theorem wipeS_in {i : Nat} {s : Slot} : ∀ {vs : List Nat} {env : Env}, i ∈ vs → (wipeS vs env)[i]? = some s → s = .un
  | [], _, h, _ => by cases h
  | v :: vs, env, h, e => by
    by_cases hm : i ∈ vs
    · rw [wipeS] at e
      exact wipeS_in hm e
    · rw [wipeS, wipeS_out hm] at e
      rcases List.mem_cons.mp h with z | z
      · subst z
        by_cases hl : i < env.length
        · rw [List.getElem?_set_self hl] at e; cases e; rfl
        · rw [List.getElem?_eq_none (by simpa using hl)] at e; cases e
      · exact absurd z hm
theorem backS_len : ∀ (vs : List Nat) (old env : Env), (backS vs old env).length = env.length
  | [], _, _ => rfl
  | v :: vs, old, env => by rw [backS, backS_len vs, List.length_set]
theorem backS_out {i : Nat} {old : Env} : ∀ {vs : List Nat} {env : Env}, i ∉ vs → (backS vs old env)[i]? = env[i]?
  | [], _, _ => rfl
  | v :: vs, env, h => by
    have h1 : v ≠ i := fun e => h (by rw [e]; exact List.mem_cons_self)
    have h2 : i ∉ vs := fun m => h (List.mem_cons_of_mem _ m)
    rw [backS, backS_out h2, List.getElem?_set_ne h1]
theorem backS_in {i : Nat} {s : Slot} {old : Env} : ∀ {vs : List Nat} {env : Env}, i ∈ vs → (backS vs old env)[i]? = some s → s = old.getD i .un
  | [], _, h, _ => by cases h
  | v :: vs, env, h, e => by
    by_cases hm : i ∈ vs
    · rw [backS] at e
      exact backS_in hm e
    · rw [backS, backS_out hm] at e
      rcases List.mem_cons.mp h with z | z
      · subst z
        by_cases hl : i < env.length
        · rw [List.getElem?_set_self hl] at e; cases e; rfl
        · rw [List.getElem?_eq_none (by simpa using hl)] at e; cases e
      · exact absurd z hm
end
end Py

/-! Calls: a def's promise where no repr is running, a call by it, a body that keeps it. -/
namespace Py
open PySem PySem.Spec PyProof.Rows L2

/-- a def keeps its promise, called where no repr runs -/
structure FnG (P : Program) (w : World) (K : PySem.W.Frag) (mg : Str → Option Value) (base : Heap) (k : Nat) (f : Addr) (fd : FuncData) (ps : List Str) (sp : Sp) : Prop where
  len : ∀ vs H Q E, sp vs H Q E → vs.length = ps.length
  go : ∀ (A : Around) (outer : List PySem.Env) (s : Shared) (H : Hp) (args : Args) (us : List Value) (vs : List V) (Q : VK) (E : XK), Room k A → A.guards = some [] → Env0 P w K mg base A outer s H →
    BindsTo s fd args (ps.zip us) → Vals vs us → sp vs H Q E → codeAny (model P w) A (.call (.ref f) args) (L2.CR (L2.CX P w) outer P w H s Q E) s
section
variable {P : Program} {w : World} {K : PySem.W.Frag} {mg : Str → Option Value} {base : Heap} {f : Addr} {fd : FuncData} {ps : List Str} {sp : Sp}
theorem FnG.mono {j k : Nat} (F : FnG P w K mg base j f fd ps sp) (h : j ≤ k) : FnG P w K mg base k f fd ps sp :=
  ⟨F.len, fun A outer s H args us vs Q E hr => F.go A outer s H args us vs Q E (hr.mono h)⟩
end
/-- the call of a known def by bound arguments -/
theorem FnG.call {X : Cx} {k : Nat} {f : Addr} {fd : FuncData} {ps : List Str} {sp : Sp} {W : WX} {pins : List (Addr × Obj)} {σ : L2.St} {H : Hp} {s : Shared} {Q : VK} {us zs : List Value} {vs : List V} {kw : List (Str × Value)}
    (F : FnG X.prog X.w X.K X.mg X.base k f fd ps sp) (hr : Room k X.A) (hg : X.A.guards = some []) (tk : Takes X W) (I : Inv X pins σ H s) (hb : zs.length = ps.length → BindsTo s fd ⟨us, kw⟩ (ps.zip zs)) (r : Vals vs zs)
    (h : sp vs H Q fun cls d H' => W cls d σ H') : wpAny (model X.prog X.w) X.A (PySem.call (.ref f) us kw) (EP X pins σ Q) X.xe s := by
  have hl : zs.length = ps.length := by rw [← r.length]; exact F.len _ _ _ _ h
  refine wpAny_call (codeAny_mono (F.go X.A X.stack s H ⟨us, kw⟩ zs vs Q _ hr hg I.env0 (hb hl) r h) fun q s' hq => ?_)
  cases q with
  | error e => exact tk e s' (XE.of_call I (fun _ _ _ z => z) hq)
  | ok fl =>
    cases fl with
    | ret u => exact I.after hq
    | next => exact hq.elim
    | brk => exact hq.elim
    | cont => exact hq.elim
/-- a body keeps the promise -/
theorem fnG_of {P : Program} {w : World} {K : PySem.W.Frag} {mg : Str → Option Value} {base : Heap} {k : Nat} {f : Addr} {name qual : Str} {params : Arguments} {body : List Stmt} {scope : Scope} {dV kV doc pm cdv ct oc : Value} {an od : Option Addr}
    {osl : Array (Option Value)} {N ps : List Str} {sp : Sp} (lk : K.lookup f = some ⟨oc, od, .func (PySem.W.fnOf name qual params body scope dV kV doc pm an cdv ct), osl⟩) (hcd : PySem.W.codeIn K cdv qual = true) (S : FnScope N ps scope)
    (len : ∀ vs H Q E, sp vs H Q E → vs.length = ps.length)
    (hbody : ∀ (A : Around) (outer : List PySem.Env) (s : Shared) (H : Hp) (vs : List V) (Q : VK) (E : XK), Room k (A.deeper (envOfC qual scope s.heap.objs.size f cdv)) → (A.deeper (envOfC qual scope s.heap.objs.size f cdv)).guards = some [] → sp vs H Q E →
      ∃ t, PSs (cxOf (L2.CX P w) P w K mg base N qual scope f cdv A outer s H E) body t ∧ t { nx := fun _ H' => Q .non H', rt := Q } (start N vs) H) :
    FnG P w K mg base (k + 1) f (PySem.W.fnOf name qual params body scope dV kV doc pm an cdv ct) ps sp := by
  refine ⟨len, fun A outer s H args us vs Q E hr hg e0 hb r hsp => ?_⟩
  have hl := len _ _ _ _ hsp
  have KX : K.In s.heap := e0.mod.kin.keeps fun b o e => (e0.bs b o e).1
  have lim' : s.heap.NoLimit := e0.mod.nolimit.keeps fun b o e => (e0.bs b o e).1
  have hkind : ∀ y ∈ ps.zip us, scope.names.lookup y.1 = some .local ∨ (scope.names.lookup y.1 = some .cell ∧ ((cellsFrom (s.heap.objs.size + 1) scope.names []).lookup y.1).isSome = true) := by
    rintro ⟨n, v⟩ hy
    exact (S.par n (List.of_mem_zip hy).1).imp_right fun q => ⟨q, PySem.W.cellsFrom_some _ _ _ (.inl q)⟩
  refine codeAny_call_function hr.depth (KX _ _ lk) rfl S.co S.gen rfl (PySem.W.codeRec_of KX hcd) (hb _ _ _ _ ?_)
  refine wpAny_newFunctionEnv_cells S.kind hkind fun env he s1 x => ?_
  subst he
  refine ⟨lim'.keeps x.toInCall.keep, codeAny_func ?_⟩
  have hg' : (A.deeper (envOfC qual scope s.heap.objs.size f cdv)).guards = some [] := by
    first
      | exact hg
      | simpa [Around.deeper] using hg
  obtain ⟨t, ht, hq⟩ := hbody A outer s H vs Q E (hr.deeper _) hg' hsp
  have I : Inv (cxOf (L2.CX P w) P w K mg base N qual scope f cdv A outer s H E) [] (start N vs) H s1 := inv_start S hr.hd e0 hl r x
  refine wpAny_mono (ht.run [] s1 (start N vs) H _ I hq) (fun fl s' hs => ?_) fun e s' hs => hs
  cases fl with
  | ret u =>
    obtain ⟨v, σ', H', J, rv, q⟩ := hs
    exact ⟨v, H', J.os, J.bare, J.base, J.hok, rv, q⟩
  | next =>
    obtain ⟨σ', H', J, q⟩ := hs
    exact ⟨V.non, H', J.os, J.bare, J.base, J.hok, rfl, q⟩
  | brk => obtain ⟨_, _, _, q⟩ := hs; exact q.elim
  | cont => obtain ⟨_, _, _, q⟩ := hs; exact q.elim

/-! ### the promise that the evaluator gives -/
def ArgOk (K : PySem.W.Frag) (F H : Hp) : Arg → V → Prop
  | .v d, v => Rep K F d v
  | .r od, v => ∃ p, v = .ref p ∧ F p = none ∧ OwnOk K F H p od
def ArgAll (K : PySem.W.Frag) (F H : Hp) : List Arg → List V → Prop
  | [], vs => vs = []
  | a :: as, vs => ∃ v r, vs = v :: r ∧ ArgOk K F H a v ∧ ArgAll K F H as r
/-- the addresses that are handed in by reference -/
def refAddrs : List Arg → List V → List Addr
  | .r _ :: as, .ref p :: vs => p :: refAddrs as vs
  | _ :: as, _ :: vs => refAddrs as vs
  | _, _ => []
structure ArgsOk (K : PySem.W.Frag) (F H : Hp) (args : List Arg) (vs : List V) : Prop where
  le : Le F H
  all : ArgAll K F H args vs
  nd : (refAddrs args vs).Nodup
/-- behind a call: what was handed in by reference stands changed -/
def OutAll (K : PySem.W.Frag) (F H : Hp) : List Addr → List OD → Prop
  | [], os => os = []
  | p :: ps, os => ∃ o r, os = o :: r ∧ F p = none ∧ OwnOk K F H p o ∧ OutAll K F H ps r
structure Ret (K : PySem.W.Frag) (F H : Hp) (refs : List Addr) (outs : List OD) (F' H' : Hp) : Prop where
  le : Le F' H'
  go : Go F H F' H' (fun p => p ∈ refs)
  out : OutAll K F' H' refs outs
def RetV (K : PySem.W.Frag) (H : Hp) (refs : List Addr) (F' H' : Hp) : RV → V → Prop
  | .v d, v => Rep K F' d v
  | .o od, v => ∃ p, v = .ref p ∧ F' p = none ∧ OwnOk K F' H' p od ∧ H p = none ∧ p ∉ refs
/-- an exception: its class, its own dict -/
abbrev ExR := Exn → Value → Option Addr → Hp → Hp → Prop
def spOf (K : PySem.W.Frag) (xr : ExR) (Φ : Sig) (f : Nat) : Sp := fun vs H Q E => ∃ F args, ArgsOk K F H args vs ∧ match Φ f args with
  | none => False
  | some (.ret rv outs) => ∀ v F' H', Ret K F H (refAddrs args vs) outs F' H' → RetV K H (refAddrs args vs) F' H' rv v → Q v H'
  | some (.exc x outs) => ∀ cls d F' H', Ret K F H (refAddrs args vs) outs F' H' → xr x cls d F' H' → E cls d H'
end Py

/-! Read: what an evaluation asks of the hand layer, and how evaluations follow one another. -/
namespace Py
open PySem PySem.Spec PyProof.Rows L2

/-- a step of a def's body that stores no name -/
structure Stp (K : PySem.W.Frag) (σ : L2.St) (F H : Hp) (env : Py.Env) (F' H' : Hp) (env' : Py.Env) : Prop where
  rel : Rel K F' H' σ env'
  go : Go F H F' H' (Owns env σ)
  sub : Sub env' env
section
variable {K : PySem.W.Frag} {σ : L2.St} {F H F1 H1 F2 H2 : Hp} {env env1 env2 : Py.Env}
theorem Stp.refl (r : Rel K F H σ env) : Stp K σ F H env F H env := ⟨r, Go.refl _ _ _, Sub.refl _⟩
theorem Stp.trans (a : Stp K σ F H env F1 H1 env1) (b : Stp K σ F1 H1 env1 F2 H2 env2) : Stp K σ F H env F2 H2 env2 :=
  ⟨b.rel, a.go.trans b.go fun _ h => a.sub.owns h, b.sub.trans a.sub⟩
theorem Stp.goN (r : Rel K F H σ env) (g : GoN F H F1 H1) : Stp K σ F H env F1 H1 env := ⟨r.goN g, g.go _, Sub.refl _⟩
end

/-- how a result of the evaluator and a value go together; the first two are the start's -/
structure VRel (K : PySem.W.Frag) (σ : L2.St) (α β : Type) where
  r : Hp → Py.Env → Hp → Hp → Py.Env → α → β → Prop
  mono : ∀ {F H env F1 H1 env1 F2 H2 env2 a b}, Stp K σ F H env F1 H1 env1 → r H1 env1 F2 H2 env2 a b → r H env F2 H2 env2 a b
section
variable (K : PySem.W.Frag) (σ : L2.St)
def vR : VRel K σ RV V where
  r := fun H env F' H' env' rv v => RVok K F' H' σ env' rv v ∧ Org H (Owns env σ) rv v
  mono := by
    intro F H env F1 H1 env1 F2 H2 env2 a b s h
    refine ⟨h.1, ?_⟩
    cases a with
    | v d => exact True.intro
    | o od =>
      intro p e
      rcases h.2 p e with q | q
      · cases z : H p with
        | none => exact .inl rfl
        | some u =>
          obtain ⟨u', e'⟩ := s.go.dom p u z
          rw [q] at e'; cases e'
      · exact .inr (s.sub.owns q)
def vD : VRel K σ D V := ⟨fun _ _ F' _ _ d v => Rep K F' d v, fun _ h => h⟩
def vP : VRel K σ PV V := ⟨fun _ _ F' _ _ p v => match p with
  | .d d => Rep K F' d v
  | .b i => σ[i]? = some (some v), fun _ h => h⟩
def vB : VRel K σ Bool Bool := ⟨fun _ _ _ _ _ a b => a = b, fun _ h => h⟩
def vL : VRel K σ (List D) (List V) := ⟨fun _ _ F' _ _ ds vs => RepAll K F' ds vs, fun _ h => h⟩
def vU : VRel K σ Unit Unit := ⟨fun _ _ _ _ _ _ _ => True, fun _ h => h⟩
end

/-- what is wanted of an exception -/
def ExPost (K : PySem.W.Frag) (xr : ExR) (W : WX) (σ : L2.St) (F H : Hp) (env : Py.Env) (x : Exn) (env' : Py.Env) : Prop :=
  ∀ cls d F' H', Stp K σ F H env F' H' env' → xr x cls d F' H' → W cls d σ H'
/-- what is wanted of an evaluation's result -/
def Rd {α β : Type} (K : PySem.W.Frag) (xr : ExR) (W : WX) (σ : L2.St) (VR : VRel K σ α β) (F H : Hp) (env : Py.Env) (m : R α) (Q : β → Hp → Prop) : Prop :=
  match m with
  | none => False
  | some (.ex x env') => ExPost K xr W σ F H env x env'
  | some (.ok a env') => ∀ b F' H', Stp K σ F H env F' H' env' → VR.r H env F' H' env' a b → Q b H'
section
variable {K : PySem.W.Frag} {xr : ExR} {W : WX} {σ : L2.St} {F H F1 H1 : Hp} {env env1 : Py.Env} {α β γ δ : Type} {VA : VRel K σ α β} {VC : VRel K σ γ δ}
theorem Rd.shift {m : R α} {Q : β → Hp → Prop} (s : Stp K σ F H env F1 H1 env1) (h : Rd K xr W σ VA F H env m Q) : Rd K xr W σ VA F1 H1 env1 m Q := by
  unfold Rd at h ⊢
  cases m with
  | none => exact h
  | some o =>
    cases o with
    | ex x e2 => exact fun cls d F' H' s2 hx => h cls d F' H' (s.trans s2) hx
    | ok a e2 => exact fun b F' H' s2 hv => h b F' H' (s.trans s2) (VA.mono s hv)
theorem Rd.bind {m : R α} {f : α → Py.Env → R γ} {Q : δ → Hp → Prop} (h : Rd K xr W σ VC F H env (m.bind f) Q) :
    Rd K xr W σ VA F H env m fun b H1 => ∃ a F1 env1, m = some (.ok a env1) ∧ Stp K σ F H env F1 H1 env1 ∧ VA.r H env F1 H1 env1 a b ∧ Rd K xr W σ VC F1 H1 env1 (f a env1) Q := by
  cases m with
  | none => exact h
  | some o =>
    cases o with
    | ex x e2 => exact h
    | ok a e2 =>
      intro b F' H' s hv
      exact ⟨a, F', e2, rfl, s, hv, Rd.shift (F := F) (H := H) (env := env) s h⟩
theorem Rd.imp {m : R α} {Q Q' : β → Hp → Prop} (h : Rd K xr W σ VA F H env m Q) (i : ∀ b H', Q b H' → Q' b H') : Rd K xr W σ VA F H env m Q' := by
  unfold Rd at h ⊢
  cases m with
  | none => exact h
  | some o =>
    cases o with
    | ex x e2 => exact h
    | ok a e2 => exact fun b F' H' s hv => i _ _ (h b F' H' s hv)
theorem Rd.ok {a : α} {Q : β → Hp → Prop} {b : β} (h : Rd K xr W σ VA F H env (some (.ok a env1)) Q) (s : Stp K σ F H env F1 H1 env1) (v : VA.r H env F1 H1 env1 a b) : Q b H1 := h b F1 H1 s v
/-- a value that is frozen where it comes -/
theorem Rd.frz {m : R RV} {Q : V → Hp → Prop} (h : Rd K xr W σ (vD K σ) F H env (fzR m) Q) : Rd K xr W σ (vR K σ) F H env m Q := by
  unfold fzR at h
  cases m with
  | none => exact h
  | some o =>
    cases o with
    | ex x e2 => exact h
    | ok rv e2 =>
      intro v F' H' s hv
      have h' : Rd K xr W σ (vD K σ) F H env (lift (Py.frz rv) e2) Q := h
      cases e : Py.frz rv with
      | none => rw [e] at h'; exact h'.elim
      | some d =>
        rw [e] at h'
        obtain ⟨F2, r2, g2, rp, _⟩ := RVok.frz (F1 := F) (H1 := H) hv.1 s.rel e (Owns env σ) hv.2 s.go
        exact h' v F2 H' ⟨r2, g2, s.sub⟩ rp
/-- a result of an operator -/
theorem Rd.post {rv : RV} {Q : V → Hp → Prop} (h : Rd K xr W σ (vR K σ) F H env (some (.ok rv env)) Q) (r : Rel K F H σ env) : OpPost K F H rv Q := by
  cases rv with
  | v d => exact fun v F' H' g rp => h v F' H' (Stp.goN r g) ⟨rp, True.intro⟩
  | o od =>
    intro p H' hp g ok
    refine h (.ref p) F H' (Stp.goN r g) ⟨⟨p, rfl, ?_, ok, fun q => ?_⟩, fun p' e => ?_⟩
    · exact r.le.none hp
    · obtain ⟨_, o, ho⟩ := r.owned q
      rw [hp] at ho; cases ho
    · cases e; exact .inl hp
end

/-! ### readings -/
section
variable (K : PySem.W.Frag) (xr : ExR) (W : WX) (Φ : Sig)
abbrev ev (c : E) (env : Py.Env) : R RV := evR thePar Φ c env
def tR (c : E) : TE := fun σ H Q => ∃ F env, Rel K F H σ env ∧ Rd K xr W σ (vR K σ) F H env (ev Φ c env) Q
def tD (c : E) : TE := fun σ H Q => ∃ F env, Rel K F H σ env ∧ Rd K xr W σ (vD K σ) F H env (fzR (ev Φ c env)) Q
def tP (c : E) : TE := fun σ H Q => ∃ F env, Rel K F H σ env ∧ Rd K xr W σ (vP K σ) F H env (asP c (ev Φ c env) env) Q
def tT (c : E) : TT := fun σ H Q => ∃ F env, Rel K F H σ env ∧ Rd K xr W σ (vB K σ) F H env ((ev Φ c env).bind asBool) Q
def tLs (cs : List E) : TA := fun σ H Q => ∃ F env, Rel K F H σ env ∧ Rd K xr W σ (vL K σ) F H env (evEs thePar Φ cs env) Q
end
theorem pe_imp {X : Cx} {e : PySem.Expr} {t t' : TE} (h : PE X e t) (i : ∀ σ H Q, t' σ H Q → t σ H Q) : PE X e t' := ⟨fun pins s σ H Q I q => h.run pins s σ H Q I (i σ H Q q)⟩
theorem pt_imp {X : Cx} {e : PySem.Expr} {t t' : TT} (h : PT X e t) (i : ∀ σ H Q, t' σ H Q → t σ H Q) : PT X e t' := ⟨fun pins s σ H Q I q => h.run pins s σ H Q I (i σ H Q q)⟩
section
variable {X : Cx} {xr : ExR} {W : WX} {Φ : Sig} {c : E} {e : PySem.Expr}
theorem PE.d (h : PE X e (tR X.K xr W Φ c)) : PE X e (tD X.K xr W Φ c) := pe_imp h fun σ H Q ⟨F, env, r, q⟩ => ⟨F, env, r, q.frz⟩
theorem PE.p (h : PE X e (tR X.K xr W Φ c)) (hc : ∀ i, c ≠ .bor i) : PE X e (tP X.K xr W Φ c) := pe_imp (PE.d h) fun σ H Q ⟨F, env, r, q⟩ => by
  refine ⟨F, env, r, ?_⟩
  have e1 : asP c (ev Φ c env) env = (fzR (ev Φ c env)).bind fun d e1 => some (.ok (.d d) e1) := by
    unfold asP
    cases c <;> first | rfl | exact absurd rfl (hc _)
  rw [e1] at q
  refine (Rd.bind (VA := vD X.K σ) q).imp fun v H' ⟨d, F1, env1, _, s, rp, h⟩ => ?_
  exact h v F1 H' (Stp.refl s.rel) rp
end
end Py

/-! Snd1: each form of an expression keeps what the evaluator says of it. -/
namespace Py
open PySem PySem.Spec PyProof.Rows L2

/-- where an expression is evaluated -/
structure XOk (k : Nat) (X : Cx) : Prop where
  calm : X.calm = true
  room : Room k X.A
  guards : X.A.guards = some []
  nd : X.N.Nodup
theorem XOk.u {k : Nat} {X : Cx} (x : XOk k X) : X.A.units + 200 < cLine := by have := x.room.un; omega

section
variable {X : Cx} {xr : ExR} {W : WX} {Φ : Sig} {pos : Pos} {k : Nat}
/-! names, constants -/
theorem s_var {i : Nat} {x : Str} (hN : X.N[i]? = some x) (hv : Vis X.env.scope x) (hd : (x == ("__debug__" : Str)) = false) (hcd : (x == ("__classdict__" : Str)) = false) : PE X (.Name x pos) (tR X.K xr W Φ (.var i)) :=
  pe_imp (pe_var hN hv hd hcd) fun σ H Q ⟨F, env, r, q⟩ => by
    have q' : Rd X.K xr W σ (vR X.K σ) F H env (readVar i env) Q := q
    unfold readVar at q'
    split at q'
    · rename_i d hi
      obtain ⟨v, e, rp⟩ := r.slot i _ hi
      exact ⟨v, e, q' v F H (Stp.refl r) ⟨rp, True.intro⟩⟩
    · rename_i o hi
      split at q'
      · rename_i d hd
        obtain ⟨p, e, h1, h2⟩ := r.slot i _ hi
        obtain ⟨ho, hp, rp⟩ := h2.freeze hd h1
        have own : Owns env σ p := ⟨i, o, hi, e⟩
        have r1 : Rel X.K F H σ (env.set i .un) := r.setSlot True.intro fun _ _ z => nomatch z
        have r2 : Rel X.K (upd F p ho) H σ (env.set i .un) := r1.freeze hp fun ⟨j, oj, hj, ej⟩ => by
          by_cases z : i = j
          · subst z
            by_cases hl : i < env.length
            · rw [List.getElem?_set_self hl] at hj; cases hj
            · rw [List.getElem?_eq_none (by simpa using hl)] at hj; cases hj
          · rw [List.getElem?_set_ne z] at hj
            exact z (r.apart i j o oj p hi hj e ej)
        have r3 : Rel X.K (upd F p ho) H σ (env.set i (.fz d)) := by
          have := r2.setSlot (i := i) (s := .fz d) ⟨.ref p, e, rp⟩ fun _ _ z => nomatch z
          rw [List.set_set] at this
          exact this
        exact ⟨.ref p, e, q' (.ref p) (upd F p ho) H ⟨r3, Go.freeze hp r.le _ own, sub_set fun _ z => nomatch z⟩ ⟨rp, True.intro⟩⟩
      · exact q'.elim
    · exact q'.elim
theorem s_mov {i : Nat} {x : Str} (hN : X.N[i]? = some x) (hv : Vis X.env.scope x) (hd : (x == ("__debug__" : Str)) = false) (hcd : (x == ("__classdict__" : Str)) = false) : PE X (.Name x pos) (tR X.K xr W Φ (.mov i)) :=
  pe_imp (pe_var hN hv hd hcd) fun σ H Q ⟨F, env, r, q⟩ => by
    have q' : Rd X.K xr W σ (vR X.K σ) F H env (movVar i env) Q := q
    unfold movVar at q'
    split at q'
    · rename_i o hi
      obtain ⟨p, e, h1, h2⟩ := r.slot i _ hi
      have own : Owns env σ p := ⟨i, o, hi, e⟩
      have r1 : Rel X.K F H σ (env.set i .un) := r.setSlot True.intro fun _ _ z => nomatch z
      refine ⟨.ref p, e, q' (.ref p) F H ⟨r1, Go.refl _ _ _, sub_set fun _ z => nomatch z⟩ ⟨⟨p, rfl, h1, h2, fun ⟨j, oj, hj, ej⟩ => ?_⟩, fun p' z => ?_⟩⟩
      · by_cases z : i = j
        · subst z
          by_cases hl : i < env.length
          · rw [List.getElem?_set_self hl] at hj; cases hj
          · rw [List.getElem?_eq_none (by simpa using hl)] at hj; cases hj
        · rw [List.getElem?_set_ne z] at hj
          exact z (r.apart i j o oj p hi hj e ej)
      · cases z; exact .inr own
    · rename_i d hi
      obtain ⟨v, e, rp⟩ := r.slot i _ hi
      exact ⟨v, e, q' v F H (Stp.refl r) ⟨rp, True.intro⟩⟩
    · exact q'.elim
theorem s_bor {i : Nat} {x : Str} (hN : X.N[i]? = some x) (hv : Vis X.env.scope x) (hd : (x == ("__debug__" : Str)) = false) (hcd : (x == ("__classdict__" : Str)) = false) : PE X (.Name x pos) (tP X.K xr W Φ (.bor i)) := by
  refine pe_imp (pe_var hN hv hd hcd) fun σ H Q ⟨F, env, r, q⟩ => ?_
  unfold asP at q
  simp only at q
  split at q
  · rename_i o hi
    obtain ⟨p, e, _⟩ := r.slot i _ hi
    exact ⟨_, e, q _ F H (Stp.refl r) e⟩
  · rename_i d hi
    obtain ⟨v, e, _⟩ := r.slot i _ hi
    exact ⟨v, e, q v F H (Stp.refl r) e⟩
  · exact q.elim
/-- a flat constant -/
def constV : D → Option V
  | .non => some .non
  | .bl b => some (.bl b)
  | .int i => some (.int i)
  | .str s => if s.all (· < 0x110000) && decide (s.length ≤ lim) then some (.str ⟨s.toArray⟩) else none
  | _ => none
theorem constV_rep {K : PySem.W.Frag} {F : Hp} {d : D} {v : V} (h : constV d = some v) : Rep K F d v := by
  cases d <;> simp only [constV] at h
  case non => cases h; unfold Rep; rfl
  case bl => cases h; unfold Rep; rfl
  case int => cases h; unfold Rep; rfl
  case str s =>
    split at h
    · rename_i hs
      cases h
      rw [Bool.and_eq_true, List.all_eq_true, decide_eq_true_eq] at hs
      unfold Rep
      exact ⟨rfl, fun c hc => by simpa using hs.1 c hc, hs.2⟩
    · cases h
  all_goals cases h
theorem s_tc {c : E} {d : D} {v : V} {e : PySem.Expr} (hc : ∀ env, ev Φ c env = some (.ok (.v d) env)) (hd : constV d = some v) (h : PE X e (tC v)) : PE X e (tR X.K xr W Φ c) :=
  pe_imp h fun σ H Q ⟨F, env, r, q⟩ => by
    rw [hc] at q
    exact q v F H (Stp.refl r) ⟨constV_rep hd, True.intro⟩

/-! operators -/
/-- what an operand stands for, later on -/
theorem resolve_ok {K : PySem.W.Frag} {σ : L2.St} {F H F1 H1 F2 H2 : Hp} {env env1 env2 : Py.Env} {p : PV} {v : V} {d : D} (h : (vP K σ).r H env F1 H1 env1 p v) (s : Stp K σ F1 H1 env1 F2 H2 env2) (e : resolve env2 p = some d) : RepB K F2 H2 d v := by
  cases p with
  | d d' =>
    simp only [resolve, Option.some.injEq] at e
    subst e
    exact (Rep.mono s.go.mono h).b s.rel.le
  | b i =>
    have hi : σ[i]? = some (some v) := h
    simp only [resolve] at e
    split at e
    · rename_i o ho
      obtain ⟨p, e1, _, h2⟩ := s.rel.slot i _ ho
      rw [hi] at e1
      cases e1
      exact h2.b e
    · rename_i d' ho
      obtain ⟨v', e1, h1⟩ := s.rel.slot i _ ho
      rw [hi] at e1
      cases e1
      cases e
      exact h1.b s.rel.le
    · cases e
def rBinA (K : PySem.W.Frag) (o : BOp) : R2 := fun x y H Q => ∃ a b rv, binOp o a b = some rv ∧ rBin K a b rv x y H Q
theorem bin_okA {o : BOp} : OpR X (binaryOp (opOf o)) (rBinA X.K o) := fun pins s σ H x y v u Q I rx ry ⟨_, _, _, e, h⟩ => bin_ok e pins s σ H x y v u Q I rx ry h
theorem s_bin {o : BOp} {a b : E} {l r : PySem.Expr} (ha : PE X l (tP X.K xr W Φ a)) (hb : PE X r (tP X.K xr W Φ b)) : PE X (.BinOp l (opOf o) r pos) (tR X.K xr W Φ (.bin o a b)) :=
  pe_imp (pe_op bin_okA ha hb) fun σ H Q ⟨F, env, r, q⟩ => by
    have q' : Rd X.K xr W σ (vR X.K σ) F H env ((asP a (ev Φ a env) env).bind fun x e1 => (asP b (ev Φ b e1) e1).bind fun y e2 => match resolve e2 x, resolve e2 y with
      | some p, some q => lift (binOp o p q) e2
      | _, _ => none) Q := q
    refine ⟨F, env, r, (Rd.bind (VA := vP X.K σ) q').imp fun x H1 ⟨px, F1, env1, _, s1, h1, q1⟩ => ?_⟩
    refine ⟨F1, env1, s1.rel, (Rd.bind (VA := vP X.K σ) q1).imp fun y H2 ⟨py, F2, env2, _, s2, h2, q2⟩ => ?_⟩
    split at q2
    · rename_i p q ep eq
      cases eb : binOp o p q with
      | none => rw [eb] at q2; exact q2.elim
      | some rv =>
        rw [eb] at q2
        exact ⟨p, q, rv, eb, F2, s2.rel.le, resolve_ok (F := F) h1 s2 ep, resolve_ok (F := F1) h2 (Stp.refl s2.rel) eq, q2.post s2.rel⟩
    · exact q2.elim
theorem s_neg {a : E} {l : PySem.Expr} (ha : PE X l (tD X.K xr W Φ a)) : PE X (.UnaryOp .USub l pos) (tR X.K xr W Φ (.neg a)) :=
  pe_imp (pe_un un_neg ha) fun σ H Q ⟨F, env, r, q⟩ => by
    have q' : Rd X.K xr W σ (vR X.K σ) F H env ((fzR (ev Φ a env)).bind fun x e1 => match x with
      | .int i => some (.ok (.v (.int (-i))) e1)
      | _ => none) Q := q
    refine ⟨F, env, r, (Rd.bind (VA := vD X.K σ) q').imp fun x H1 ⟨d, F1, env1, _, s1, h1, q1⟩ => ?_⟩
    split at q1
    · rename_i i _
      have h1' : Rep X.K F1 (.int i) x := h1
      unfold Rep at h1'
      exact ⟨i, h1', q1 (.int (-i)) F1 H1 (Stp.refl s1.rel) ⟨by show Rep X.K F1 _ _; unfold Rep; rfl, True.intro⟩⟩
    · exact q1.elim
def rCmpA (K : PySem.W.Frag) (o : COp) : R2 := fun x y H Q => ∃ a b c, cmpOp o a b = some c ∧ rCmp K a b c x y H Q
theorem cmp_okA (x : XOk k X) {o : COp} : OpR X (compareOp (opC o)) (rCmpA X.K o) := fun pins s σ H x' y v u Q I rx ry ⟨_, _, _, e, h⟩ => cmp_ok (by have := x.u; omega) e pins s σ H x' y v u Q I rx ry h
/-- what the reading of a comparison of two operands asks -/
theorem cmp_read {o : COp} {a b : E} {σ : L2.St} {H : Hp} {Q : VK} (h : tR X.K xr W Φ (.cmp o a b) σ H Q) : tOp (rCmpA X.K o) (tP X.K xr W Φ a) (tP X.K xr W Φ b) σ H Q := by
  obtain ⟨F, env, r, q⟩ := h
  have q' : Rd X.K xr W σ (vR X.K σ) F H env ((asP a (ev Φ a env) env).bind fun x e1 => (asP b (ev Φ b e1) e1).bind fun y e2 => match resolve e2 x, resolve e2 y with
    | some p, some q => lift ((cmpOp o p q).map fun c => RV.v (.bl c)) e2
    | _, _ => none) Q := q
  refine ⟨F, env, r, (Rd.bind (VA := vP X.K σ) q').imp fun x H1 ⟨px, F1, env1, _, s1, h1, q1⟩ => ?_⟩
  refine ⟨F1, env1, s1.rel, (Rd.bind (VA := vP X.K σ) q1).imp fun y H2 ⟨py, F2, env2, _, s2, h2, q2⟩ => ?_⟩
  split at q2
  · rename_i p q ep eq
    cases eb : cmpOp o p q with
    | none => rw [eb] at q2; exact q2.elim
    | some c =>
      rw [eb] at q2
      exact ⟨p, q, c, eb, F2, s2.rel.le, resolve_ok (F := F) h1 s2 ep, resolve_ok (F := F1) h2 (Stp.refl s2.rel) eq, q2 (.bl c) F2 H2 (Stp.refl s2.rel) ⟨by show Rep X.K F2 _ _; unfold Rep; rfl, True.intro⟩⟩
  · exact q2.elim
theorem s_cmp (x : XOk k X) {o : COp} {a b : E} {l r : PySem.Expr} (ha : PE X l (tP X.K xr W Φ a)) (hb : PE X r (tP X.K xr W Φ b)) (hm : behindInMarks (opC o) r = false) : PE X (.Compare l [opC o] [r] pos) (tR X.K xr W Φ (.cmp o a b)) :=
  pe_imp (pe_cmpR (cmp_okA x) ha hb hm) fun _ _ _ h => cmp_read h
/-- a test whose value is a bool, by the reading of the value -/
theorem tT_of {c : E} {σ : L2.St} {H : Hp} {Q : Bool → Hp → Prop} (h : tT X.K xr W Φ c σ H Q) : tR X.K xr W Φ c σ H fun v H' => ∃ b, v = .bl b ∧ Q b H' := by
  obtain ⟨F, env, r, q⟩ := h
  refine ⟨F, env, r, (Rd.bind (VA := vR X.K σ) q).imp fun v H' ⟨rv, F1, env1, _, s1, h1, q1⟩ => ?_⟩
  unfold asBool at q1
  split at q1
  · rename_i b _
    have h1' : Rep X.K F1 (.bl b) v := h1.1
    unfold Rep at h1'
    exact ⟨b, h1', q1 b F1 H' (Stp.refl s1.rel) rfl⟩
  · exact q1.elim
theorem s_cmpT (x : XOk k X) {o : COp} {a b : E} {l r : PySem.Expr} (ha : PE X l (tP X.K xr W Φ a)) (hb : PE X r (tP X.K xr W Φ b)) (hm : behindInMarks (opC o) r = false) : PT X (.Compare l [opC o] [r] pos) (tT X.K xr W Φ (.cmp o a b)) :=
  pt_imp (pt_cmpR (cmp_okA x) ha hb hm) fun _ _ _ h => cmp_read (tT_of h)
theorem chn_read {o p : COp} {a b c : E} {σ : L2.St} {H : Hp} {Q : VK} (h : tR X.K xr W Φ (.chn o p a b c) σ H Q) : tChain (rCmpA X.K o) (rCmpA X.K p) (tD X.K xr W Φ a) (tD X.K xr W Φ b) (tD X.K xr W Φ c) σ H Q := by
  obtain ⟨F, env, r, q⟩ := h
  have q' : Rd X.K xr W σ (vR X.K σ) F H env ((fzR (ev Φ a env)).bind fun x e1 => (fzR (ev Φ b e1)).bind fun y e2 => match cmpOp o x y with
      | some true => (fzR (ev Φ c e2)).bind fun z e3 => lift ((cmpOp p y z).map fun c => RV.v (.bl c)) e3
      | some false => some (.ok (.v (.bl false)) e2)
      | none => none) Q := q
  refine ⟨F, env, r, (Rd.bind (VA := vD X.K σ) q').imp fun x H1 ⟨dx, F1, env1, _, s1, h1, q1⟩ => ?_⟩
  refine ⟨F1, env1, s1.rel, (Rd.bind (VA := vD X.K σ) q1).imp fun y H2 ⟨dy, F2, env2, _, s2, h2, q2⟩ => ?_⟩
  have h1' : Rep X.K F2 dx x := Rep.mono s2.go.mono h1
  split at q2
  · rename_i eo
    refine ⟨dx, dy, true, eo, F2, s2.rel.le, h1'.b s2.rel.le, Rep.b s2.rel.le h2, true, rfl, ?_⟩
    rw [if_pos rfl]
    refine ⟨F2, env2, s2.rel, (Rd.bind (VA := vD X.K σ) q2).imp fun z H3 ⟨dz, F3, env3, _, s3, h3, q3⟩ => ?_⟩
    cases ep : cmpOp p dy dz with
    | none => rw [ep] at q3; exact q3.elim
    | some t =>
      rw [ep] at q3
      have h2' : Rep X.K F3 dy y := Rep.mono s3.go.mono h2
      exact ⟨dy, dz, t, ep, F3, s3.rel.le, h2'.b s3.rel.le, Rep.b s3.rel.le h3, q3 (.bl t) F3 H3 (Stp.refl s3.rel) ⟨by show Rep X.K F3 _ _; unfold Rep; rfl, True.intro⟩⟩
  · rename_i eo
    refine ⟨dx, dy, false, eo, F2, s2.rel.le, h1'.b s2.rel.le, Rep.b s2.rel.le h2, false, rfl, ?_⟩
    rw [if_neg Bool.false_ne_true]
    exact q2 (.bl false) F2 H2 (Stp.refl s2.rel) ⟨by show Rep X.K F2 _ _; unfold Rep; rfl, True.intro⟩
  · exact q2.elim
theorem s_chn (x : XOk k X) {o p : COp} {a b c : E} {l m r : PySem.Expr} (ha : PE X l (tD X.K xr W Φ a)) (hb : PE X m (tD X.K xr W Φ b)) (hc : PE X r (tD X.K xr W Φ c)) (hm : behindInMarks (opC p) r = false) : PE X (.Compare l [opC o, opC p] [m, r] pos) (tR X.K xr W Φ (.chn o p a b c)) :=
  pe_imp (pe_chain (cmp_okA x) (cmp_okA x) ha hb hc (by show behindInMarks (opC p) r = false; exact hm)) fun _ _ _ h => chn_read h
theorem s_chnT (x : XOk k X) {o p : COp} {a b c : E} {l m r : PySem.Expr} (ha : PE X l (tD X.K xr W Φ a)) (hb : PE X m (tD X.K xr W Φ b)) (hc : PE X r (tD X.K xr W Φ c)) (hm : behindInMarks (opC p) r = false) : PT X (.Compare l [opC o, opC p] [m, r] pos) (tT X.K xr W Φ (.chn o p a b c)) :=
  pt_imp (pt_chain (cmp_okA x) (cmp_okA x) ha hb hc (by show behindInMarks (opC p) r = false; exact hm)) fun _ _ _ h => chn_read (tT_of h)

/-! and, or, not, if -/
theorem tT_read {c : E} {σ : L2.St} {F H : Hp} {env : Py.Env} {Q : Bool → Hp → Prop} (r : Rel X.K F H σ env) (q : Rd X.K xr W σ (vB X.K σ) F H env ((ev Φ c env).bind asBool) Q) : tT X.K xr W Φ c σ H Q := ⟨F, env, r, q⟩
def tAnd' (K : PySem.W.Frag) (xr : ExR) (W : WX) (Φ : Sig) (cs : List E) : TE := fun σ H Q => ∃ F env, Rel K F H σ env ∧ Rd K xr W σ (vR K σ) F H env (evAnd thePar Φ cs env) Q
def tOr' (K : PySem.W.Frag) (xr : ExR) (W : WX) (Φ : Sig) (cs : List E) : TE := fun σ H Q => ∃ F env, Rel K F H σ env ∧ Rd K xr W σ (vR K σ) F H env (evOr thePar Φ cs env) Q
/-- a value that is a bool, as a value of the reading -/
theorem bool_read {c : E} {σ : L2.St} {F H : Hp} {env : Py.Env} {f : Bool → Py.Env → R RV} {Q : VK} {Qb : Bool → Hp → Prop} (r : Rel X.K F H σ env) (q : Rd X.K xr W σ (vR X.K σ) F H env (((ev Φ c env).bind asBool).bind f) Q)
    (h : ∀ b F1 H1 env1, Stp X.K σ F H env F1 H1 env1 → Rd X.K xr W σ (vR X.K σ) F1 H1 env1 (f b env1) Q → Qb b H1) : tR X.K xr W Φ c σ H fun v H' => ∃ b, v = .bl b ∧ Qb b H' := by
  have q1 := Rd.bind (VA := vB X.K σ) q
  refine tT_of ⟨F, env, r, q1.imp fun b H1 ⟨a, F1, env1, _, s, e, q2⟩ => ?_⟩
  have e' : a = b := e
  subst e'
  exact h a F1 H1 env1 s q2
theorem s_and1 {c : E} {e : PySem.Expr} (h : PE X e (tR X.K xr W Φ c)) : PE X (.BoolOp .And [e] pos) (tAnd' X.K xr W Φ [c]) :=
  pe_imp (pe_one (PE.d h)) fun σ H Q ⟨F, env, r, q⟩ => by
    have q' : Rd X.K xr W σ (vR X.K σ) F H env ((fzR (ev Φ c env)).bind fun d e1 => some (.ok (.v d) e1)) Q := q
    exact ⟨F, env, r, (Rd.bind (VA := vD X.K σ) q').imp fun v H1 ⟨d, F1, env1, _, s, h1, q1⟩ => q1 v F1 H1 (Stp.refl s.rel) ⟨h1, True.intro⟩⟩
theorem s_or1 {c : E} {e : PySem.Expr} (h : PE X e (tR X.K xr W Φ c)) : PE X (.BoolOp .Or [e] pos) (tOr' X.K xr W Φ [c]) :=
  pe_imp (pe_one (PE.d h)) fun σ H Q ⟨F, env, r, q⟩ => by
    have q' : Rd X.K xr W σ (vR X.K σ) F H env ((fzR (ev Φ c env)).bind fun d e1 => some (.ok (.v d) e1)) Q := q
    exact ⟨F, env, r, (Rd.bind (VA := vD X.K σ) q').imp fun v H1 ⟨d, F1, env1, _, s, h1, q1⟩ => q1 v F1 H1 (Stp.refl s.rel) ⟨h1, True.intro⟩⟩
theorem s_and {c c2 : E} {cs : List E} {e e2 : PySem.Expr} {es : List PySem.Expr} (h : PE X e (tR X.K xr W Φ c)) (t : PE X (.BoolOp .And (e2 :: es) pos) (tAnd' X.K xr W Φ (c2 :: cs))) : PE X (.BoolOp .And (e :: e2 :: es) pos) (tAnd' X.K xr W Φ (c :: c2 :: cs)) :=
  pe_imp (pe_and h t) fun σ H Q ⟨F, env, r, q⟩ => by
    have q' : Rd X.K xr W σ (vR X.K σ) F H env (((ev Φ c env).bind asBool).bind fun b e1 => if b then evAnd thePar Φ (c2 :: cs) e1 else some (.ok (.v (.bl false)) e1)) Q := q
    refine bool_read r q' fun b F1 H1 env1 s q1 => ?_
    cases b with
    | true => rw [if_pos rfl]; exact ⟨F1, env1, s.rel, q1⟩
    | false => rw [if_neg Bool.false_ne_true]; exact q1 (.bl false) F1 H1 (Stp.refl s.rel) ⟨by show Rep X.K F1 _ _; unfold Rep; rfl, True.intro⟩
theorem s_or {c c2 : E} {cs : List E} {e e2 : PySem.Expr} {es : List PySem.Expr} (h : PE X e (tR X.K xr W Φ c)) (t : PE X (.BoolOp .Or (e2 :: es) pos) (tOr' X.K xr W Φ (c2 :: cs))) : PE X (.BoolOp .Or (e :: e2 :: es) pos) (tOr' X.K xr W Φ (c :: c2 :: cs)) :=
  pe_imp (pe_or h t) fun σ H Q ⟨F, env, r, q⟩ => by
    have q' : Rd X.K xr W σ (vR X.K σ) F H env (((ev Φ c env).bind asBool).bind fun b e1 => if b then some (.ok (.v (.bl true)) e1) else evOr thePar Φ (c2 :: cs) e1) Q := q
    refine bool_read r q' fun b F1 H1 env1 s q1 => ?_
    cases b with
    | false => rw [if_neg Bool.false_ne_true]; exact ⟨F1, env1, s.rel, q1⟩
    | true => rw [if_pos rfl]; exact q1 (.bl true) F1 H1 (Stp.refl s.rel) ⟨by show Rep X.K F1 _ _; unfold Rep; rfl, True.intro⟩
/-! .. as tests -/
def tAndT (K : PySem.W.Frag) (xr : ExR) (W : WX) (Φ : Sig) (cs : List E) : TT := fun σ H Q => ∃ F env, Rel K F H σ env ∧ Rd K xr W σ (vB K σ) F H env ((evAnd thePar Φ cs env).bind asBool) Q
def tOrT (K : PySem.W.Frag) (xr : ExR) (W : WX) (Φ : Sig) (cs : List E) : TT := fun σ H Q => ∃ F env, Rel K F H σ env ∧ Rd K xr W σ (vB K σ) F H env ((evOr thePar Φ cs env).bind asBool) Q
theorem pw_imp {e : PySem.Expr} {t t' : TT} (h : PW X e t) (i : ∀ σ H Q, t' σ H Q → t σ H Q) : PW X e t' := ⟨fun wh pins s σ H Q I q => h.run wh pins s σ H Q I (i σ H Q q)⟩
theorem one_bool (m : R RV) : ((fzR m).bind fun d e1 => some (.ok (RV.v d) e1)).bind asBool = m.bind asBool := by
  cases m with
  | none => rfl
  | some o =>
    cases o with
    | ex x e => rfl
    | ok rv e =>
      cases rv with
      | v d => rfl
      | o od =>
        cases od with
        | lst xs => rfl
        | dct ks vs => rfl
        | obj c fs =>
          show R.bind (R.bind (lift (Py.frz (.o (.obj c fs))) e) _) asBool = none
          simp only [Py.frz]
          cases allSome fs <;> rfl
theorem s_and1T {c : E} {e : PySem.Expr} (h : PT X e (tT X.K xr W Φ c)) : PW X (.BoolOp .And [e] pos) (tAndT X.K xr W Φ [c]) :=
  pw_imp (pw_and1 h) fun σ H Q ⟨F, env, r, q⟩ => ⟨F, env, r, by rw [← one_bool]; exact q⟩
theorem s_or1T {c : E} {e : PySem.Expr} (h : PT X e (tT X.K xr W Φ c)) : PW X (.BoolOp .Or [e] pos) (tOrT X.K xr W Φ [c]) :=
  pw_imp (pw_or1 h) fun σ H Q ⟨F, env, r, q⟩ => ⟨F, env, r, by rw [← one_bool]; exact q⟩
theorem bind_bind {α β γ : Type} (m : R α) (f : α → Py.Env → R β) (g : β → Py.Env → R γ) : (m.bind f).bind g = m.bind fun a e => (f a e).bind g := by
  cases m with
  | none => rfl
  | some o => cases o <;> rfl
theorem s_andT {c c2 : E} {cs : List E} {e e2 : PySem.Expr} {es : List PySem.Expr} (h : PT X e (tT X.K xr W Φ c)) (t : PW X (.BoolOp .And (e2 :: es) pos) (tAndT X.K xr W Φ (c2 :: cs))) : PW X (.BoolOp .And (e :: e2 :: es) pos) (tAndT X.K xr W Φ (c :: c2 :: cs)) :=
  pw_imp (pw_and h t) fun σ H Q ⟨F, env, r, q⟩ => by
    have q' : Rd X.K xr W σ (vB X.K σ) F H env ((((ev Φ c env).bind asBool).bind fun b e1 => if b then evAnd thePar Φ (c2 :: cs) e1 else some (.ok (.v (.bl false)) e1)).bind asBool) Q := q
    rw [bind_bind] at q'
    refine ⟨F, env, r, (Rd.bind (VA := vB X.K σ) q').imp fun b H1 ⟨a, F1, env1, _, s, ea, q1⟩ => ?_⟩
    have ea' : a = b := ea
    subst ea'
    cases a with
    | true => rw [if_pos rfl]; exact ⟨F1, env1, s.rel, q1⟩
    | false => rw [if_neg Bool.false_ne_true]; exact q1 false F1 H1 (Stp.refl s.rel) rfl
theorem s_orT {c c2 : E} {cs : List E} {e e2 : PySem.Expr} {es : List PySem.Expr} (h : PT X e (tT X.K xr W Φ c)) (t : PW X (.BoolOp .Or (e2 :: es) pos) (tOrT X.K xr W Φ (c2 :: cs))) : PW X (.BoolOp .Or (e :: e2 :: es) pos) (tOrT X.K xr W Φ (c :: c2 :: cs)) :=
  pw_imp (pw_or h t) fun σ H Q ⟨F, env, r, q⟩ => by
    have q' : Rd X.K xr W σ (vB X.K σ) F H env ((((ev Φ c env).bind asBool).bind fun b e1 => if b then some (.ok (.v (.bl true)) e1) else evOr thePar Φ (c2 :: cs) e1).bind asBool) Q := q
    rw [bind_bind] at q'
    refine ⟨F, env, r, (Rd.bind (VA := vB X.K σ) q').imp fun b H1 ⟨a, F1, env1, _, s, ea, q1⟩ => ?_⟩
    have ea' : a = b := ea
    subst ea'
    cases a with
    | false => rw [if_neg Bool.false_ne_true]; exact ⟨F1, env1, s.rel, q1⟩
    | true => rw [if_pos rfl]; exact q1 true F1 H1 (Stp.refl s.rel) rfl
theorem s_not {c : E} {e : PySem.Expr} (h : PE X e (tR X.K xr W Φ c)) : PE X (.UnaryOp .Not e pos) (tR X.K xr W Φ (.not c)) :=
  pe_imp (pe_not h) fun σ H Q ⟨F, env, r, q⟩ => by
    have q' : Rd X.K xr W σ (vR X.K σ) F H env (((ev Φ c env).bind asBool).bind fun b e1 => some (.ok (.v (.bl (!b))) e1)) Q := q
    exact bool_read r q' fun b F1 H1 env1 s q1 => q1 (.bl (!b)) F1 H1 (Stp.refl s.rel) ⟨by show Rep X.K F1 _ _; unfold Rep; rfl, True.intro⟩
theorem s_notT {c : E} {e : PySem.Expr} (h : PT X e (tT X.K xr W Φ c)) : PT X (.UnaryOp .Not e pos) (tT X.K xr W Φ (.not c)) :=
  pt_imp (pt_not h) fun σ H Q ⟨F, env, r, q⟩ => by
    have q' : Rd X.K xr W σ (vB X.K σ) F H env ((((ev Φ c env).bind asBool).bind fun b e1 => some (.ok (.v (.bl (!b))) e1)).bind asBool) Q := q
    rw [bind_bind] at q'
    refine ⟨F, env, r, (Rd.bind (VA := vB X.K σ) q').imp fun b H1 ⟨a, F1, env1, _, s, ea, q1⟩ => ?_⟩
    have ea' : a = b := ea
    subst ea'
    exact q1 (!a) F1 H1 (Stp.refl s.rel) rfl
theorem s_ite {c a b : E} {t l r : PySem.Expr} (hc : PT X t (tT X.K xr W Φ c)) (ha : PE X l (tR X.K xr W Φ a)) (hb : PE X r (tR X.K xr W Φ b)) : PE X (.IfExp t l r pos) (tR X.K xr W Φ (.ite c a b)) :=
  pe_imp (pe_ifExp hc ha hb) fun σ H Q ⟨F, env, r, q⟩ => by
    have q' : Rd X.K xr W σ (vR X.K σ) F H env (((ev Φ c env).bind asBool).bind fun b' e1 => if b' then ev Φ a e1 else ev Φ b e1) Q := q
    refine ⟨F, env, r, (Rd.bind (VA := vB X.K σ) q').imp fun b' H1 ⟨a', F1, env1, _, s, ea, q1⟩ => ?_⟩
    have ea' : a' = b' := ea
    subst ea'
    cases a' with
    | true => rw [if_pos rfl]; exact ⟨F1, env1, s.rel, q1⟩
    | false => rw [if_neg Bool.false_ne_true]; exact ⟨F1, env1, s.rel, q1⟩
/-- a test by its value -/
theorem s_test {c : E} {e : PySem.Expr} (h : PE X e (tR X.K xr W Φ c)) (he : ∀ whole, isTrue e X.env whole = (do let v ← whole; standAt e.pos; holding [v] (truthy v))) : PT X e (tT X.K xr W Φ c) :=
  pt_imp (pt_val h he) fun _ _ _ q => tT_of q

/-! lists, tuples -/
theorem s_nil : PA X [] (tLs X.K xr W Φ []) := ⟨fun pos pins s σ H Q I ⟨F, env, r, q⟩ => pa_nil.run pos pins s σ H Q I (q [] F H (Stp.refl r) (show RepAll X.K F [] [] from RepAll.nil))⟩
theorem s_cons {c : E} {cs : List E} {e : PySem.Expr} {es : List PySem.Expr} (h : PE X e (tD X.K xr W Φ c)) (t : PA X es (tLs X.K xr W Φ cs)) (hs : starEach (e :: es) X.env = (false, eval e X.env) :: starEach es X.env) : PA X (e :: es) (tLs X.K xr W Φ (c :: cs)) :=
  ⟨fun pos pins s σ H Q I ⟨F, env, r, q⟩ => (pa_cons h t hs).run pos pins s σ H Q I (by
    have q' : Rd X.K xr W σ (vL X.K σ) F H env ((fzR (ev Φ c env)).bind fun d e1 => (evEs thePar Φ cs e1).bind fun ds e2 => some (.ok (d :: ds) e2)) Q := q
    refine ⟨F, env, r, (Rd.bind (VA := vD X.K σ) q').imp fun x H1 ⟨d, F1, env1, _, s1, h1, q1⟩ => ?_⟩
    refine ⟨F1, env1, s1.rel, (Rd.bind (VA := vL X.K σ) q1).imp fun xs H2 ⟨ds, F2, env2, _, s2, h2, q2⟩ => ?_⟩
    exact q2 (x :: xs) F2 H2 (Stp.refl s2.rel) (RepAll.cons (Rep.mono s2.go.mono h1) h2))⟩
theorem evEs_len : ∀ (cs : List E) (env : Py.Env) (ds : List D) (env' : Py.Env), evEs thePar Φ cs env = some (.ok ds env') → ds.length = cs.length
  | [], _, _, _, h => by cases h; rfl
  | c :: cs, env, ds, env', h => by
    have h' : ((fzR (ev Φ c env)).bind fun d e1 => (evEs thePar Φ cs e1).bind fun ds e2 => some (.ok (d :: ds) e2)) = some (.ok ds env') := h
    cases e1 : fzR (ev Φ c env) with
    | none => rw [e1] at h'; cases h'
    | some o =>
      rw [e1] at h'
      cases o with
      | ex x e => cases h'
      | ok d e =>
        have h2 : ((evEs thePar Φ cs e).bind fun ds e2 => some (.ok (d :: ds) e2)) = some (.ok ds env') := h'
        cases e2 : evEs thePar Φ cs e with
        | none => rw [e2] at h2; cases h2
        | some o2 =>
          rw [e2] at h2
          cases o2 with
          | ex x e => cases h2
          | ok ds2 e3 =>
            cases h2
            rw [List.length_cons, List.length_cons, evEs_len cs e ds2 _ e2]
theorem s_tup {cs : List E} {es : List PySem.Expr} {x1 : Nat} (hl : cs.length ≤ lim) (h : PA X es (tLs X.K xr W Φ cs)) : PE X (.Tuple es x1 pos) (tR X.K xr W Φ (.tup cs)) :=
  pe_imp (pe_tup h) fun σ H Q ⟨F, env, r, q⟩ => by
    have q' : Rd X.K xr W σ (vR X.K σ) F H env ((evEs thePar Φ cs env).bind fun ds e1 => some (.ok (.v (.tup ds)) e1)) Q := q
    refine ⟨F, env, r, (Rd.bind (VA := vL X.K σ) q').imp fun xs H1 ⟨ds, F1, env1, eq, s, h1, q1⟩ => ?_⟩
    have h1' : RepAll X.K F1 ds xs := h1
    refine ⟨by rw [h1'.len, evEs_len _ _ _ _ eq, ← lim_eq]; exact hl, fun p hp => post_tup s.rel.le (q1.post s.rel) h1' hp⟩
theorem s_lst {cs : List E} {es : List PySem.Expr} (hl : cs.length ≤ lim) (h : PA X es (tLs X.K xr W Φ cs)) : PE X (.List es pos) (tR X.K xr W Φ (.lst cs)) :=
  pe_imp (pe_lst h) fun σ H Q ⟨F, env, r, q⟩ => by
    have q' : Rd X.K xr W σ (vR X.K σ) F H env ((evEs thePar Φ cs env).bind fun ds e1 => some (.ok (.o (.lst ds)) e1)) Q := q
    refine ⟨F, env, r, (Rd.bind (VA := vL X.K σ) q').imp fun xs H1 ⟨ds, F1, env1, eq, s, h1, q1⟩ => ?_⟩
    have h1' : RepAll X.K F1 ds xs := h1
    refine ⟨by rw [h1'.len, evEs_len _ _ _ _ eq, ← lim_eq]; exact hl, fun p hp => post_lst s.rel.le (q1.post s.rel) h1' hp⟩
theorem s_dct0 : PE X (.Dict [] [] pos) (tR X.K xr W Φ .dct0) :=
  pe_imp pe_dnewK fun σ H Q ⟨F, env, r, q⟩ => by
    intro p hp
    exact (q.post r : OpPost X.K F H (.o (.dct [] [])) Q) p _ hp (GoN.one r.le hp _) ⟨upd_same, rfl, rfl⟩

/-! index, slice -/
def rIdxA (K : PySem.W.Frag) : R2 := fun x y H Q => ∃ a i d, idxOp a i = some d ∧ rIdx K a i d x y H Q
theorem idx_okA : IxR X (rIdxA X.K) := fun value slice pins s σ H x y v u Q I rx ry ⟨_, _, _, e, h⟩ hs => idx_ok e value slice pins s σ H x y v u Q I rx ry h hs
theorem s_idx {a i : E} {l r : PySem.Expr} (ha : PE X l (tP X.K xr W Φ a)) (hi : PE X r (tD X.K xr W Φ i)) (hs : PlainIx r) : PE X (.Subscript l r pos) (tR X.K xr W Φ (.idx a i)) :=
  pe_imp (pe_ix idx_okA ha hi hs) fun σ H Q ⟨F, env, r, q⟩ => by
    have q' : Rd X.K xr W σ (vR X.K σ) F H env ((asP a (ev Φ a env) env).bind fun x e1 => (fzR (ev Φ i e1)).bind fun y e2 => match resolve e2 x with
      | some p => lift ((idxOp p y).map RV.v) e2
      | none => none) Q := q
    refine ⟨F, env, r, (Rd.bind (VA := vP X.K σ) q').imp fun x H1 ⟨px, F1, env1, _, s1, h1, q1⟩ => ?_⟩
    refine ⟨F1, env1, s1.rel, (Rd.bind (VA := vD X.K σ) q1).imp fun y H2 ⟨dy, F2, env2, _, s2, h2, q2⟩ => ?_⟩
    split at q2
    · rename_i p ep
      cases eb : idxOp p dy with
      | none => rw [eb] at q2; exact q2.elim
      | some d =>
        rw [eb] at q2
        exact ⟨p, dy, d, eb, F2, s2.rel.le, resolve_ok (F := F) h1 s2 ep, h2, fun v hv => q2 v F2 H2 (Stp.refl s2.rel) ⟨hv, True.intro⟩⟩
    · exact q2.elim
def rSlcA (K : PySem.W.Frag) : V → Option Int → Option Int → Hp → VK → Prop := fun x l h H Q => ∃ a lo hi rv, slcOp a lo hi = some rv ∧ rSlc K a lo hi rv x l h H Q
theorem slc_okA : SlR X (rSlcA X.K) := fun pins s σ H x v vl vu lo hi sl Q I rx hs pl pu ⟨_, _, _, _, e, h⟩ => slc_ok e pins s σ H x v vl vu lo hi sl Q I rx hs pl pu h
def vO (K : PySem.W.Frag) (σ : L2.St) : VRel K σ (Option Int) (Option Int) := ⟨fun _ _ _ _ _ a b => a = b, fun _ h => h⟩
/-- the reading of a bound: what comes must be an int -/
def tBd (K : PySem.W.Frag) (xr : ExR) (W : WX) (Φ : Sig) (c : E) : TO := fun σ H Q => ∃ F env, Rel K F H σ env ∧ Rd K xr W σ (vO K σ) F H env (bndR c (ev Φ c env)) Q
theorem po_imp {e : Option PySem.Expr} {t t' : TO} (h : PO X e t) (i : ∀ σ H Q, t' σ H Q → t σ H Q) : PO X e t' := ⟨fun pins s σ H Q I q => h.run pins s σ H Q I (i σ H Q q)⟩
theorem po_no : PO X none (tBd X.K xr W Φ .no) := po_imp po_none fun σ H Q ⟨F, env, r, q⟩ => q none F H (Stp.refl r) rfl
theorem po_yes {c : E} {e : PySem.Expr} (hc : isNo c = false) (h : PE X e (tD X.K xr W Φ c)) : PO X (some e) (tBd X.K xr W Φ c) := po_imp (po_some h) fun σ H Q ⟨F, env, r, q⟩ => by
  refine ⟨F, env, r, (Rd.bind (VA := vD X.K σ) q).imp fun x H1 ⟨d, F1, env1, _, s, h1, q1⟩ => ?_⟩
  have h1' : Rep X.K F1 d x := h1
  unfold bnd at q1
  rw [hc, if_neg Bool.false_ne_true] at q1
  cases d with
  | int i =>
    unfold Rep at h1'
    exact ⟨i, h1', q1 (some i) F1 H1 (Stp.refl s.rel) rfl⟩
  | _ => exact q1.elim
theorem s_slc {a lo hi : E} {l : PySem.Expr} {el eh : Option PySem.Expr} {p2 : Pos} (ha : PE X l (tP X.K xr W Φ a)) (hl : PO X el (tBd X.K xr W Φ lo)) (hh : PO X eh (tBd X.K xr W Φ hi)) : PE X (.Subscript l (.Slice el eh none p2) pos) (tR X.K xr W Φ (.slc a lo hi)) :=
  pe_imp (pe_slice slc_okA ha hl hh) fun σ H Q ⟨F, env, r, q⟩ => by
    have q' : Rd X.K xr W σ (vR X.K σ) F H env ((asP a (ev Φ a env) env).bind fun x e1 => (bndR lo (ev Φ lo e1)).bind fun l e2 => (bndR hi (ev Φ hi e2)).bind fun h e3 => match resolve e3 x with
      | some p => lift (slcOp p l h) e3
      | none => none) Q := q
    refine ⟨F, env, r, (Rd.bind (VA := vP X.K σ) q').imp fun x H1 ⟨px, F1, env1, _, s1, h1, q1⟩ => ?_⟩
    refine ⟨F1, env1, s1.rel, (Rd.bind (VA := vO X.K σ) q1).imp fun lv H2 ⟨l, F2, env2, _, s2, h2, q2⟩ => ?_⟩
    refine ⟨F2, env2, s2.rel, (Rd.bind (VA := vO X.K σ) q2).imp fun hv H3 ⟨h, F3, env3, _, s3, h3, q3⟩ => ?_⟩
    have h2' : l = lv := h2
    have h3' : h = hv := h3
    subst h2' h3'
    split at q3
    · rename_i p ep
      cases eb : slcOp p l h with
      | none => rw [eb] at q3; exact q3.elim
      | some rv =>
        rw [eb] at q3
        exact ⟨p, l, h, rv, eb, F3, s3.rel.le, resolve_ok (F := F) h1 (s2.trans s3) ep, rfl, rfl, q3.post s3.rel⟩
    · exact q3.elim
end
end Py

/-! Sets: set(..) of a list of ints, sorted. -/
namespace Py
open PySem PySem.Spec PyProof.Rows L2
section
variable {P : Program} {w : World} {A : Around} {E : Value → Shared → Prop} {s : Shared}
set_option maxRecDepth 100000 in
set_option maxHeartbeats 3200000 in
theorem set_of_ints {l : Addr} {items : Array Value} (ns : List Int) {Q : Value → Shared → Prop} (hh : A.handled = none) (hl : s.heap.IsList l items) (hit : IntsAre items.toList ns) (hb : ns.length + 1 < scanBound)
    (h : ∀ (h' : Heap) (tk c : Nat), SetR w h' s.heap.objs.size (fun j => decide (j ∈ ns)) c → c ≤ ns.length → (∀ b o, s.heap.get? b = some o → h'.get? b = some o) → Q (.ref s.heap.objs.size) { s with heap := h', toks := tk }) :
    wpAny (model P w) A (call (.type "set") [.ref l]) Q E s := by
  have hisz : items.size = ns.length := by
    have q := IntsAre.length hit
    rw [Array.length_toList] at q
    exact q
  obtain ⟨c, tl, hmro⟩ := F.called_set.mro
  have hmade := F.called_set.made
  have hsub := F.called_set.sub
  refine wpAny_call (codeAny_of_tree ?_)
  show wpAny _ _ (callAny (.type "set") _) _ _ _
  refine wpAny_pure ⟨Code.quiet_builtin _ (by decide +kernel), codeAny_builtin F.entry_type_call ?_⟩
  rw [Around.under_plain (weight_type_call_type "set" [.ref l] []) rfl]
  have h1 := F.called_set.notType
  have h2 := F.called_set.canCreate
  have hct := F.typeCall_set_1 (.ref l)
  repeat (any_goals (first | assumption | wp_step))

  refine codeAny_mono (code_set_led1 (.ref l) (E := E) (Q₁ := fun obj s₁ => obj = .ref s.heap.objs.size ∧ s₁ = { s with heap := s.heap.push { cls := .type "set", dict := none, data := .set #[] 0 (.fresh 0 0 (!w.params.followText "set-order")) } }) ⟨rfl, rfl⟩) fun r s₁ hr => ?_
  cases r with
  | error e => exact hr
  | ok fl =>
    cases fl with
    | ret obj =>
      obtain ⟨rfl, rfl⟩ := hr
      have hS : (s.heap.push { cls := .type "set", dict := none, data := .set #[] 0 (.fresh 0 0 (!w.params.followText "set-order")) }).get? s.heap.objs.size = some { cls := .type "set", dict := none, data := .set #[] 0 (.fresh 0 0 (!w.params.followText "set-order")) } := Heap.get?_push_size _ rfl
      have hT : Shared.TypeIs { s with heap := s.heap.push { cls := .type "set", dict := none, data := .set #[] 0 (.fresh 0 0 (!w.params.followText "set-order")) } } (.ref s.heap.objs.size) "set" := ⟨_, hS, rfl⟩
      have hli := F.called_set.init.lookup
      have hbi := F.called_set.init.bind (.ref s.heap.objs.size)
      repeat (any_goals (first | assumption | wp_step))

      refine codeAny_mono (codeAny_call_builtin (R := wants (fun r s₂ => r = .none ∧ ∃ h' tk c, s₂ = { s with heap := h', toks := tk } ∧ SetR w h' s.heap.objs.size (fun j => decide (j ∈ ns)) c ∧ c ≤ ns.length ∧
          (∀ b o, s.heap.get? b = some o → h'.get? b = some o)) E) F.called_set.init.plain F.entry_set_init (check_set_init_1 hT ?_)) fun r₂ s₂ hr₂ => ?_
      · obtain ⟨ol, hol, hcl, nl, hdl⟩ := hl
        obtain ⟨ocls, odict, odata, oslots⟩ := ol
        simp only at hcl hdl
        subst hcl; subst hdl
        have hol' : (s.heap.push { cls := .type "set", dict := none, data := .set #[] 0 (.fresh 0 0 (!w.params.followText "set-order")) }).get? l = some { cls := .type "list", dict := odict, data := .seq items nl, slots := oslots } := Heap.get?_push_of_some _ hol
        have hsls := F.sub_list_set
        have hslf := F.sub_list_frozenset
        have hne : (Value.type "list" == Value.type "dict") = false := by decide
        have hl1 : (s.heap.push { cls := .type "set", dict := none, data := .set #[] 0 (.fresh 0 0 (!w.params.followText "set-order")) }).IsList l items := ⟨_, hol', rfl, nl, rfl⟩
        unfold Builtin.«set.__init__» noKeywords Builtin.Frozenset.updateFrom
        generalize hPI : pyIter = PI
        wp_walk
        subst hPI

        refine wpAny_pyIter_list hl1 ?_
        refine wpAny_bind (wpAny_runValue ?_)
        have hlS : l < s.heap.objs.size := Heap.lt_size hol
        have hh3 : A.in1.in1.in1.handled = none := by simp [hh]
        have hz1 : (s.heap.push { cls := .type "set", dict := none, data := .set #[] 0 (.fresh 0 0 (!w.params.followText "set-order")) }).objs.size = s.heap.objs.size + 1 := Heap.size_push ..
        have hneI : l ≠ (s.heap.push { cls := .type "set", dict := none, data := .set #[] 0 (.fresh 0 0 (!w.params.followText "set-order")) }).objs.size := by
          rw [Heap.size_push]; exact Nat.ne_of_lt (Nat.lt_succ_of_lt hlS)
        have hSf : s.heap.objs.size ∉ [(s.heap.push { cls := .type "set", dict := none, data := .set #[] 0 (.fresh 0 0 (!w.params.followText "set-order")) }).objs.size, l] := by
          rw [Heap.size_push]; simp only [List.mem_cons, List.mem_singleton, List.not_mem_nil, or_false, not_or]
          exact ⟨Nat.ne_of_lt (Nat.lt_succ_self _), Nat.ne_of_gt hlS⟩
        have hval : ∀ (i : Nat) (v : Value), items[i]? = some v → ∃ k t, ns[i]? = some k ∧ v = .int k t := fun i v hv => by
          have hi : i < ns.length := by rw [← hisz]; exact (Array.getElem?_eq_some_iff.mp hv).1
          obtain ⟨t, e⟩ := PyProof.Rows.IntsAre.int_at hit i v (by rw [Array.getElem?_toList]; exact hv)
          refine ⟨ns[i], t, List.getElem?_eq_getElem hi, ?_⟩
          rw [e, List.getD_eq_getElem?_getD, List.getElem?_eq_getElem hi] <;> rfl
        refine set_update_ints ((Walks.list hh3 _ l hneI items).toS) s.heap.objs.size
          hSf ns hisz hb hval (items.size - 0) 0 _ (by omega) (Nat.zero_le _)
          ⟨⟨_, Heap.get?_push_size _ rfl, rfl, rfl⟩, (hl1.push _)⟩ ?hS0 ?hR
        case hS0 =>
          have hget : ((s.heap.push { cls := .type "set", dict := none, data := .set #[] 0 (.fresh 0 0 (!w.params.followText "set-order")) }).push { cls := .type "list_iterator", data := .fields #[.ref l, .int 0 0] }).get? s.heap.objs.size
              = some { cls := .type "set", dict := none, data := .set #[] 0 (.fresh 0 0 (!w.params.followText "set-order")) } := Heap.get?_push_of_some _ hS
          exact ⟨0, Nat.le_refl 0, setR_new_at hget⟩
        case hR =>
          intro s' c' hm hc' hS'
          obtain ⟨h', g2, d', tk', os'⟩ := s'
          have eg : g2 = s.gens := hm.gens
          have ed : d' = s.drawn := hm.drawn
          have eo : os' = s.os := hm.os
          subst eg; subst ed; subst eo
          show wpAny _ _ _ _ _ _
          refine wpAny_pure ?_
          show wpAny _ _ (ret Value.none) _ _ _
          rw [hisz] at hc'
          refine wpAny_pure ⟨rfl, h', tk', c', rfl, hS', hc', fun b o e => ?_⟩
          have hb0 : b < s.heap.objs.size := Heap.lt_size e
          have hb1 : b ≠ s.heap.objs.size := Nat.ne_of_lt hb0
          have hb2 : b ≠ (s.heap.push { cls := .type "set", dict := none, data := .set #[] 0 (.fresh 0 0 (!w.params.followText "set-order")) }).objs.size := by
            rw [Heap.size_push]; exact Nat.ne_of_lt (Nat.lt_succ_of_lt hb0)
          exact hm.heap b o (by simp only [List.mem_cons, List.mem_singleton, List.not_mem_nil, or_false, not_or]; exact ⟨hb1, hb2⟩) (Heap.get?_push_of_some _ (Heap.get?_push_of_some _ e))

      · cases r₂ with
        | error e => exact hr₂
        | ok fl₂ =>
          cases fl₂ with
          | ret r =>
            obtain ⟨rfl, h', tk, c', rfl, hS', hc', hk'⟩ := hr₂
            repeat (any_goals (first | assumption | wp_step))
            exact h _ _ _ hS' hc' hk'
          | _ => exact hr₂.elim
    | _ => exact hr.elim

end
end Py

/-! Snd2: calls of the built-in functions, methods of lists. -/
namespace Py
open PySem PySem.Spec PyProof.Rows L2

def nst : PySem.Expr → Bool
  | .Starred _ _ => false
  | _ => true
theorem star_cons {e : PySem.Expr} {es : List PySem.Expr} {env : PySem.Env} (h : nst e = true) : starEach (e :: es) env = (false, eval e env) :: starEach es env := by
  cases e <;> first | rfl | (simp [nst] at h)
theorem star_any {env : PySem.Env} {pos : Pos} : ∀ {es : List PySem.Expr}, es.all nst = true → (backTo pos (starEach es env)).any (·.1) = false
  | [], _ => rfl
  | e :: es, h => by
    rw [List.all_cons, Bool.and_eq_true] at h
    rw [star_cons h.1]
    show (false || (backTo pos (starEach es env)).any (·.1)) = false
    rw [Bool.false_or]
    exact star_any h.2
section
variable {X : Cx} {xr : ExR} {W : WX} {Φ : Sig} {pos p0 : Pos} {k : Nat}
/-! one argument -/
def rP1A (K : PySem.W.Frag) (p : P1) : List V → Hp → VK → Prop := fun xs H Q => ∃ a rv, p1Op thePar p a = some rv ∧ rP1 K a rv xs H Q
theorem p1_okA (x : XOk k X) {p : P1} (hp : p1Plain p = true) : CallR X (p1V p) (rP1A X.K p) := fun pins s σ H xs us Q I r ⟨_, _, e, h⟩ => p1_ok x.calm x.guards (by have := x.u; omega) hp e pins s σ H xs us Q I r h
theorem pe_bltF {f : Value} {nm : Str} {e : PySem.Expr} {es : List PySem.Expr} {t : TA} {r : List V → Hp → VK → Prop} (hf : (∃ id, f = .builtin id) ∨ ∃ T, f = .type T) (hc : CallR X f r) (hg : Gl X nm) (hm : X.mg nm = none) (hv : bootBuiltins nm = some f) (ha : PA X (e :: es) t) (hn : nm ≠ ("__name__" : Str)) (hdb : (nm == ("__debug__" : Str)) = false) (hs : (e :: es).all nst = true) :
    PE X (.Call (.Name nm p0) (e :: es) [] pos) (tCB r t) := by
  rw [List.all_cons, Bool.and_eq_true] at hs
  rcases hf with ⟨id, rfl⟩ | ⟨T, rfl⟩
  · exact pe_callB hc hg hm hv ha hn hdb (star_cons hs.1) (star_any hs.2)
  · exact pe_callTy hc hg hm hv ha hn hdb (star_cons hs.1) (star_any hs.2)
theorem p1V_form (p : P1) : (∃ id, p1V p = .builtin id) ∨ ∃ T, p1V p = .type T := by
  cases p <;> first | exact .inl ⟨_, rfl⟩ | exact .inr ⟨_, rfl⟩
theorem p1_read {p : P1} {a : E} {σ : L2.St} {H : Hp} {Q : VK} (h : tR X.K xr W Φ (.p1 p a) σ H Q) : tCB (rP1A X.K p) (tCons (tP X.K xr W Φ a) tNil) σ H Q := by
  obtain ⟨F, env, r, q⟩ := h
  have q' : Rd X.K xr W σ (vR X.K σ) F H env ((asP a (ev Φ a env) env).bind fun x e1 => match resolve e1 x with
    | some d => lift (p1Op thePar p d) e1
    | none => none) Q := q
  refine ⟨F, env, r, (Rd.bind (VA := vP X.K σ) q').imp fun x H1 ⟨px, F1, env1, _, s1, h1, q1⟩ => ?_⟩
  split at q1
  · rename_i d ed
    cases eb : p1Op thePar p d with
    | none => rw [eb] at q1; exact q1.elim
    | some rv =>
      rw [eb] at q1
      exact ⟨d, rv, eb, F1, x, rfl, s1.rel.le, resolve_ok (F := F) h1 (Stp.refl s1.rel) ed, q1.post s1.rel⟩
  · exact q1.elim
theorem s_p1 (x : XOk k X) {p : P1} {a : E} {e : PySem.Expr} {nm : Str} (hp : p1Plain p = true) (hg : Gl X nm) (hm : X.mg nm = none) (hv : bootBuiltins nm = some (p1V p)) (hn : nm ≠ ("__name__" : Str)) (hdb : (nm == ("__debug__" : Str)) = false) (ha : PE X e (tP X.K xr W Φ a)) (hs : nst e = true) :
    PE X (.Call (.Name nm p0) [e] [] pos) (tR X.K xr W Φ (.p1 p a)) :=
  pe_imp (pe_bltF (p1V_form p) (p1_okA x hp) hg hm hv (pa_cons ha pa_nil (star_cons hs)) hn hdb (by simp [hs])) fun _ _ _ h => p1_read h
/-! two arguments -/
def rP2A (K : PySem.W.Frag) (p : P2) : List V → Hp → VK → Prop := fun xs H Q => ∃ a b rv, p2Op p a b = some rv ∧ rP2 K a b rv xs H Q
theorem p2_okA (x : XOk k X) {p : P2} : CallR X (p2V p) (rP2A X.K p) := fun pins s σ H xs us Q I r ⟨_, _, _, e, h⟩ => p2_ok x.calm e pins s σ H xs us Q I r h
theorem p2V_form (p : P2) : (∃ id, p2V p = .builtin id) ∨ ∃ T, p2V p = .type T := by
  cases p <;> exact .inl ⟨_, rfl⟩
theorem s_p2 (x : XOk k X) {p : P2} {a b : E} {e e2 : PySem.Expr} {nm : Str} (hg : Gl X nm) (hm : X.mg nm = none) (hv : bootBuiltins nm = some (p2V p)) (hn : nm ≠ ("__name__" : Str)) (hdb : (nm == ("__debug__" : Str)) = false) (ha : PE X e (tD X.K xr W Φ a)) (hb : PE X e2 (tD X.K xr W Φ b)) (hs : nst e = true) (hs2 : nst e2 = true) :
    PE X (.Call (.Name nm p0) [e, e2] [] pos) (tR X.K xr W Φ (.p2 p a b)) :=
  pe_imp (pe_bltF (p2V_form p) (p2_okA x) hg hm hv (pa_cons ha (pa_cons hb pa_nil (star_cons hs2)) (star_cons hs)) hn hdb (by simp [hs, hs2])) fun σ H Q ⟨F, env, r, q⟩ => by
    have q' : Rd X.K xr W σ (vR X.K σ) F H env ((fzR (ev Φ a env)).bind fun x e1 => (fzR (ev Φ b e1)).bind fun y e2 => lift (p2Op p x y) e2) Q := q
    refine ⟨F, env, r, (Rd.bind (VA := vD X.K σ) q').imp fun u H1 ⟨da, F1, env1, _, s1, h1, q1⟩ => ?_⟩
    refine ⟨F1, env1, s1.rel, (Rd.bind (VA := vD X.K σ) q1).imp fun v H2 ⟨db, F2, env2, _, s2, h2, q2⟩ => ?_⟩
    cases eb : p2Op p da db with
    | none => rw [eb] at q2; exact q2.elim
    | some rv =>
      rw [eb] at q2
      exact ⟨da, db, rv, eb, F2, u, v, rfl, s2.rel.le, Rep.mono s2.go.mono h1, h2, q2.post s2.rel⟩

/-! isinstance -/
def tyT : Ty → String
  | .int => "int"
  | .bool => "bool"
  | .str => "str"
  | .list => "list"
  | .tuple => "tuple"
  | .dict => "dict"
  | _ => "object"
def tyN : Ty → Str
  | .int => "int"
  | .bool => "bool"
  | .str => "str"
  | .list => "list"
  | .tuple => "tuple"
  | .dict => "dict"
  | _ => "object"
def tyOk : Ty → Bool
  | .non => false
  | .cls _ => false
  | _ => true
theorem ty_boot {t : Ty} (h : tyOk t = true) : bootBuiltins (tyN t) = some (.type (tyT t)) := by
  cases t <;> first | (simp [tyOk] at h; done) | decide +kernel
def dT : D → String
  | .non => "NoneType"
  | .bl _ => "bool"
  | .int _ => "int"
  | .str _ => "str"
  | .lst _ => "list"
  | .tup _ => "tuple"
  | _ => "dict"
theorem kit_is {K : PySem.W.Frag} {d : D} {t : Ty} {b : Bool} (h : isTy d t = some b) (ht : tyOk t = true) (hd : ∀ c fs, d ≠ .obj c fs) : PySem.W.kitOne K (.type (dT d)) (.type (tyT t)) = some b := by
  cases d <;> cases t <;> first
    | (simp [tyOk] at ht; done)
    | (exact absurd rfl (hd _ _))
    | (simp only [isTy, Option.some.injEq] at h; subst h; simp only [dT, tyT]; exact kit_ty (by decide +kernel))
    | (simp [isTy] at h; done)
theorem kit_any {K : PySem.W.Frag} {d : D} (hd : ∀ c fs, d ≠ .obj c fs) : ∀ {ts : List Ty} {b : Bool}, isTys d ts = some b → ts.all tyOk = true → PySem.W.kitAny K (.type (dT d)) (ts.map fun t => Value.type (tyT t)) = some b
  | [], b, h, _ => by
    simp only [isTys, Option.some.injEq] at h
    subst h
    exact kitAny_nil
  | t :: ts, b, h, ht => by
    rw [List.all_cons, Bool.and_eq_true] at ht
    unfold isTys at h
    cases e : isTy d t with
    | none => rw [e] at h; cases h
    | some c =>
      rw [e] at h
      refine kitAny_cons (kit_is e ht.1 hd) (fun hc => ?_) fun hc => ?_
      · subst hc; exact kit_any hd h ht.2
      · subst hc
        simp only [Option.some.injEq] at h
        exact h.symm
theorem tyx {K : PySem.W.Frag} {F H : Hp} (le : Le F H) {d : D} {v : V} (h : Rep K F d v) (hs : ∀ ns, d ≠ .scr ns) : TyX K H v (.type (dT d)) := by
  cases d <;> unfold Rep at h
  · subst h; exact .base .non
  · subst h; exact .base (.bl _)
  · subst h; exact .base (.int _)
  · obtain ⟨rfl, _⟩ := h; exact .base (.str _)
  · obtain ⟨a, vs, rfl, h, _⟩ := h; exact .base (.lst (le _ _ h))
  · obtain ⟨a, vs, rfl, h, _⟩ := h; exact .base (.tup (le _ _ h))
  · obtain ⟨a, rfl, h, _⟩ := h; exact .base (.dK (le _ _ h))
  · exact h.elim
  · exact absurd rfl (hs _)
theorem isTys_scr {ns : List Int} {t : Ty} {ts : List Ty} {b : Bool} : isTys (.scr ns) (t :: ts) ≠ some b := fun h => by simp [isTys, isTy] at h
theorem isi_read {a : E} {ts : List Ty} {σ : L2.St} {H : Hp} {Q : VK} (h : tR X.K xr W Φ (.isi a ts) σ H Q) : tD X.K xr W Φ a σ H fun v H1 => ∃ d b F1 env1, isTys d ts = some b ∧ Rep X.K F1 d v ∧ Rel X.K F1 H1 σ env1 ∧ Rd X.K xr W σ (vR X.K σ) F1 H1 env1 (some (.ok (.v (.bl b)) env1)) Q := by
  obtain ⟨F, env, r, q⟩ := h
  have q' : Rd X.K xr W σ (vR X.K σ) F H env ((fzR (ev Φ a env)).bind fun x e1 => lift ((isTys x ts).map fun c => RV.v (.bl c)) e1) Q := q
  refine ⟨F, env, r, (Rd.bind (VA := vD X.K σ) q').imp fun v H1 ⟨d, F1, env1, _, s1, h1, q1⟩ => ?_⟩
  cases eb : isTys d ts with
  | none => rw [eb] at q1; exact q1.elim
  | some b => rw [eb] at q1; exact ⟨d, b, F1, env1, eb, h1, s1.rel, q1⟩
theorem s_isi1 {a : E} {t : Ty} {e : PySem.Expr} {p2 : Pos} (ht : tyOk t = true) (hg : Gl X "isinstance") (hm : X.mg "isinstance" = none) (hg2 : Gl X (tyN t)) (hm2 : X.mg (tyN t) = none) (ha : PE X e (tD X.K xr W Φ a)) (hs : nst e = true) :
    PE X (.Call (.Name "isinstance" p0) [e, .Name (tyN t) p2] [] pos) (tR X.K xr W Φ (.isi a [t])) :=
  pe_imp (pe_bltF (.inl ⟨_, rfl⟩) call_isi hg hm (by decide +kernel) (pa_cons ha (pa_cons (pe_bltn (v := .ty (tyT t)) hg2 hm2 (ty_boot ht) rfl (by cases t <;> first | decide | (simp [tyOk] at ht)) (by cases t <;> first | decide | (simp [tyOk] at ht))) pa_nil rfl) (star_cons hs)) (by decide) (by decide) (by rw [List.all_cons, hs]; rfl)) fun σ H Q h => by
    obtain ⟨F, env, r, q⟩ := isi_read h
    refine ⟨F, env, r, q.imp fun v H1 ⟨d, b, F1, env1, ei, rp, rl, q1⟩ => ?_⟩
    have hd : ∀ c fs, d ≠ .obj c fs := fun c fs z => by subst z; unfold Rep at rp; exact rp
    have hsc : ∀ ns, d ≠ .scr ns := fun ns z => by subst z; exact isTys_scr ei
    have ei' : isTy d t = some b := by
      unfold isTys at ei
      cases e2 : isTy d t with
      | none => rw [e2] at ei; cases ei
      | some c =>
        rw [e2] at ei
        cases c with
        | true => exact ei
        | false => simpa [isTys] using ei
    exact ⟨v, .ty (tyT t), _, _, b, rfl, .ty _, tyx rl.le rp hsc, kit_is ei' ht hd, q1 (.bl b) F1 H1 (Stp.refl rl) ⟨by show Rep X.K F1 _ _; unfold Rep; rfl, True.intro⟩⟩
/-- the names of some types -/
theorem pa_tys : ∀ {ts : List Ty} {ps : List Pos}, ts.all tyOk = true → ps.length = ts.length → (∀ t ∈ ts, Gl X (tyN t) ∧ X.mg (tyN t) = none) → PA X (ts.zipWith (fun t p => PySem.Expr.Name (tyN t) p) ps) (fun _ H Q => Q (ts.map fun t => V.ty (tyT t)) H)
  | [], ps, _, _, _ => by
    cases ps with
    | nil => exact pa_nil
    | cons p ps => exact pa_nil
  | t :: ts, [], _, hl, _ => by simp at hl
  | t :: ts, p :: ps, h, hl, hg => by
    rw [List.all_cons, Bool.and_eq_true] at h
    obtain ⟨ht, h⟩ := h
    obtain ⟨hg2, hm2⟩ := hg t List.mem_cons_self
    exact pa_cons (te := tC (.ty (tyT t))) (t := fun _ H Q => Q (ts.map fun t => V.ty (tyT t)) H) (pe_bltn (v := .ty (tyT t)) hg2 hm2 (ty_boot ht) rfl (by cases t <;> first | decide | (simp [tyOk] at ht)) (by cases t <;> first | decide | (simp [tyOk] at ht))) (pa_tys h (by simpa using hl) fun t' ht' => hg t' (List.mem_cons_of_mem _ ht')) rfl
theorem paired_tys : ∀ ts : List Ty, Paired ClsV (ts.map fun t => V.ty (tyT t)) (ts.map fun t => Value.type (tyT t))
  | [] => .nil
  | t :: ts => .cons (.ty _) (paired_tys ts)
theorem s_isiT {a : E} {t : Ty} {ts : List Ty} {ps : List Pos} {e : PySem.Expr} {x1 : Nat} {p2 : Pos} (ht : (t :: ts).all tyOk = true) (hl : ps.length = (t :: ts).length) (hz : (t :: ts).length ≤ 100) (hgl : ∀ t' ∈ t :: ts, Gl X (tyN t') ∧ X.mg (tyN t') = none) (hg : Gl X "isinstance") (hm : X.mg "isinstance" = none) (ha : PE X e (tD X.K xr W Φ a)) (hs : nst e = true) :
    PE X (.Call (.Name "isinstance" p0) [e, .Tuple ((t :: ts).zipWith (fun t p => PySem.Expr.Name (tyN t) p) ps) x1 p2] [] pos) (tR X.K xr W Φ (.isi a (t :: ts))) :=
  pe_imp (pe_bltF (.inl ⟨_, rfl⟩) call_isiT hg hm (by decide +kernel) (pa_cons ha (pa_cons (pe_tup (pa_tys ht hl hgl)) pa_nil rfl) (star_cons hs)) (by decide) (by decide) (by rw [List.all_cons, hs]; rfl)) fun σ H Q h => by
    obtain ⟨F, env, r, q⟩ := isi_read h
    refine ⟨F, env, r, q.imp fun v H1 ⟨d, b, F1, env1, ei, rp, rl, q1⟩ => ?_⟩
    have hd : ∀ c fs, d ≠ .obj c fs := fun c fs z => by subst z; unfold Rep at rp; exact rp
    have hsc : ∀ ns, d ≠ .scr ns := fun ns z => by subst z; exact isTys_scr ei
    refine ⟨by rw [List.length_map]; exact Nat.le_trans hz (by decide), fun p hp => ?_⟩
    have g := GoN.one rl.le hp (.tup ((t :: ts).map fun t => V.ty (tyT t)))
    exact ⟨v, p, _, _, _, b, rfl, upd_same, paired_tys _, tyx (rl.goN g).le rp hsc, kit_any hd ei ht, q1 (.bl b) F1 _ (Stp.goN rl g) ⟨by show Rep X.K F1 _ _; unfold Rep; rfl, True.intro⟩⟩

/-! methods of lists -/
theorem few1 {e : PySem.Expr} {env : PySem.Env} {cpos : Pos} (h : nst e = true) : ((backTo cpos (starEach [e] env)).all (fun x => !x.1) && (backToKw cpos (keywordEach [] env)).all (fun x => x.1.isSome)
      && decide ([e].length + ([] : List Keyword).length + (if ([] : List Keyword).isEmpty then 0 else 1) < 30)) = true := by
  rw [star_cons h]
  rfl
theorem ownsL_of {i : Nat} {env : Py.Env} (h : ownsL i env = true) : ∃ xs, env[i]? = some (.own (.lst xs)) := by
  unfold ownsL at h
  split at h
  · exact ⟨_, by assumption⟩
  · cases h
theorem s_app {i : Nat} {nm : Str} {a : E} {e : PySem.Expr} {pn apos cpos : Pos} (hN : X.N[i]? = some nm) (hv : Vis X.env.scope nm) (hd : (nm == ("__debug__" : Str)) = false) (hcd : (nm == ("__classdict__" : Str)) = false) (ha : PE X e (tD X.K xr W Φ a)) (hs : nst e = true) (hline : (apos.endLine == cpos.line) = true) :
    PE X (.Call (.Attribute (.Name nm pn) "append" apos) [e] [] cpos) (tR X.K xr W Φ (.app i a)) := by
  refine pe_imp (pe_bm PySem.F.plainAttrs_list PySem.F.slot_list_append PySem.F.type_list_append mt_append (pe_var hN hv hd hcd) (pa_cons ha pa_nil (star_cons hs)) rfl (few1 hs) hline (star_cons hs) rfl) fun σ H Q ⟨F, env, r, q⟩ => ?_
  have q' : Rd X.K xr W σ (vR X.K σ) F H env (if ownsL i env then (fzR (ev Φ a env)).bind fun d e1 => appOp i d e1 else none) Q := q
  by_cases ho : ownsL i env = true
  · rw [if_pos ho] at q'
    obtain ⟨xs0, he0⟩ := ownsL_of ho
    obtain ⟨p, ep, _, vs0, hp0, _⟩ := r.slot i _ he0
    refine ⟨.ref p, ep, .inl ⟨rfl, vs0, .inl (.inl hp0)⟩, F, env, r, (Rd.bind (VA := vD X.K σ) q').imp fun v H1 ⟨d, F1, env1, _, s1, h1, q1⟩ => ?_⟩
    unfold appOp at q1
    split at q1
    · rename_i xs he1
      split at q1
      · rename_i hz
        obtain ⟨p', ep', hF, vs, hp, rp⟩ := s1.rel.slot i _ he1
        rw [ep] at ep'
        cases ep'
        have w : OwnOk X.K F1 (upd H1 p (.lst (vs ++ [v]))) p (.lst (xs ++ [d])) := ⟨_, upd_same, rp.append (.cons h1 .nil)⟩
        exact ⟨p, vs, v, rfl, rfl, hp, by rw [rp.len, ← lim_eq]; exact hz, q1 .non F1 _ ⟨s1.rel.write he1 ep w, Go.write s1.rel he1 ep, sub_set fun _ _ => ⟨_, he1⟩⟩ ⟨by show Rep X.K F1 _ _; unfold Rep; rfl, True.intro⟩⟩
      · exact q1.elim
    · exact q1.elim
  · rw [if_neg ho] at q'
    exact q'.elim
theorem s_ext {i : Nat} {nm : Str} {a : E} {e : PySem.Expr} {pn apos cpos : Pos} (hN : X.N[i]? = some nm) (hv : Vis X.env.scope nm) (hd : (nm == ("__debug__" : Str)) = false) (hcd : (nm == ("__classdict__" : Str)) = false) (ha : PE X e (tD X.K xr W Φ a)) (hs : nst e = true) (hline : (apos.endLine == cpos.line) = true) :
    PE X (.Call (.Attribute (.Name nm pn) "extend" apos) [e] [] cpos) (tR X.K xr W Φ (.ext i a)) := by
  refine pe_imp (pe_bm PySem.F.plainAttrs_list PySem.F.slot_list_extend PySem.F.type_list_extend mt_extend (pe_var hN hv hd hcd) (pa_cons ha pa_nil (star_cons hs)) rfl (few1 hs) hline (star_cons hs) rfl) fun σ H Q ⟨F, env, r, q⟩ => ?_
  have q' : Rd X.K xr W σ (vR X.K σ) F H env (if ownsL i env then (fzR (ev Φ a env)).bind fun d e1 => extOp i d e1 else none) Q := q
  by_cases ho : ownsL i env = true
  · rw [if_pos ho] at q'
    obtain ⟨xs0, he0⟩ := ownsL_of ho
    obtain ⟨p, ep, _, vs0, hp0, _⟩ := r.slot i _ he0
    refine ⟨.ref p, ep, .inl ⟨rfl, vs0, .inl (.inl hp0)⟩, F, env, r, (Rd.bind (VA := vD X.K σ) q').imp fun v H1 ⟨d, F1, env1, _, s1, h1, q1⟩ => ?_⟩
    unfold extOp at q1
    split at q1
    · rename_i xs ys he1 _
      split at q1
      · rename_i hz
        obtain ⟨p', ep', hF, vs, hp, rp⟩ := s1.rel.slot i _ he1
        rw [ep] at ep'
        cases ep'
        have h1' : Rep X.K F1 (.lst ys) v := h1
        unfold Rep at h1'
        obtain ⟨b, us, rfl, hb, ru⟩ := h1'
        have w : OwnOk X.K F1 (upd H1 p (.lst (vs ++ us))) p (.lst (xs ++ ys)) := ⟨_, upd_same, rp.append ru⟩
        exact ⟨p, b, vs, us, rfl, rfl, hp, s1.rel.le _ _ hb, by rw [rp.len, ru.len, ← lim_eq]; exact hz, q1 .non F1 _ ⟨s1.rel.write he1 ep w, Go.write s1.rel he1 ep, sub_set fun _ _ => ⟨_, he1⟩⟩ ⟨by show Rep X.K F1 _ _; unfold Rep; rfl, True.intro⟩⟩
      · exact q1.elim
    · exact q1.elim
  · rw [if_neg ho] at q'
    exact q'.elim

/-! sorted(set(..)) of ints -/
def rSetI (K : PySem.W.Frag) (w : World) : List V → Hp → VK → Prop := fun xs H Q => ∃ (l : Addr) (ns : List Int), xs = [.ref l] ∧ SqL K H l (ns.map V.int) ∧ ns.length < 64 ∧ ∀ (p : Addr) (c : Nat), H p = none → c ≤ ns.length → Q (.ref p) (upd H p (SetO w p (fun j => decide (j ∈ ns)) c))
theorem call_setI (hc : X.calm = true) : CallR X (.type "set") (rSetI X.K X.w) := by
  intro pins s σ H xs us Q I r h
  obtain ⟨l, ns, rfl, hq, hz, q⟩ := h
  rw [Vals.ref1 r]
  obtain ⟨its, rv, pl, _⟩ := I.list hq
  have hl : its.length = ns.length := by rw [← rv.length, List.length_map]
  refine set_of_ints ns (I.ok.hd hc) pl.isList (ints_of_vals rv) (by unfold scanBound; omega) fun h' tk c R hcn k => ?_
  exact ⟨.ref _, _, I.laid (t' := tk) k (Nat.le_refl _) (setO_new R), rfl, q _ c (I.hok.fresh (Nat.le_refl _)) hcn⟩
theorem mem_insI {x a : Int} : ∀ {l : List Int}, a ∈ insI x l ↔ a = x ∨ a ∈ l
  | [] => by simp [insI]
  | y :: l => by
    unfold insI
    split
    · simp
    · rw [List.mem_cons, mem_insI, List.mem_cons]
      constructor
      · rintro (h | h | h) <;> simp [h]
      · rintro (h | h | h) <;> simp [h]
theorem mem_sortI {a : Int} : ∀ {l : List Int}, a ∈ sortI l ↔ a ∈ l
  | [] => Iff.rfl
  | x :: l => by rw [sortI, mem_insI, mem_sortI, List.mem_cons]
theorem mem_dedupI {a : Int} : ∀ {l : List Int}, a ∈ dedupI l ↔ a ∈ l
  | [] => Iff.rfl
  | x :: l => by
    unfold dedupI
    split
    · rename_i h
      rw [mem_dedupI, List.mem_cons]
      constructor
      · exact .inr
      · rintro (e | h')
        · rw [e]; exact h
        · exact h'
    · rw [List.mem_cons, mem_dedupI, List.mem_cons]
theorem pw_insI {x : Int} : ∀ {l : List Int}, x ∉ l → l.Pairwise (· < ·) → (insI x l).Pairwise (· < ·)
  | [], _, _ => by simp [insI]
  | y :: l, hn, h => by
    rw [List.pairwise_cons] at h
    unfold insI
    split
    · rename_i hxy
      refine List.pairwise_cons.mpr ⟨fun z hz => ?_, List.pairwise_cons.mpr h⟩
      have : x ≠ y := fun e => hn (by rw [e]; exact List.mem_cons_self)
      rcases List.mem_cons.mp hz with rfl | hz
      · omega
      · have := h.1 z hz; omega
    · rename_i hxy
      refine List.pairwise_cons.mpr ⟨fun z hz => ?_, pw_insI (fun q => hn (List.mem_cons_of_mem _ q)) h.2⟩
      rcases mem_insI.mp hz with rfl | hz
      · omega
      · exact h.1 z hz
theorem nd_dedupI : ∀ l : List Int, (dedupI l).Nodup
  | [] => List.nodup_nil
  | x :: l => by
    unfold dedupI
    split
    · exact nd_dedupI l
    · rename_i h
      exact List.nodup_cons.mpr ⟨fun q => h (mem_dedupI.mp q), nd_dedupI l⟩
theorem pw_sortI : ∀ {l : List Int}, l.Nodup → (sortI l).Pairwise (· < ·)
  | [], _ => .nil
  | x :: l, h => by
    rw [List.nodup_cons] at h
    exact pw_insI (fun q => h.1 (mem_sortI.mp q)) (pw_sortI h.2)
theorem pw_same : ∀ {l m : List Int}, l.Pairwise (· < ·) → m.Pairwise (· < ·) → (∀ a, a ∈ l ↔ a ∈ m) → l = m
  | [], [], _, _, _ => rfl
  | [], y :: m, _, _, h => by have := (h y).mpr List.mem_cons_self; simp at this
  | x :: l, [], _, _, h => by have := (h x).mp List.mem_cons_self; simp at this
  | x :: l, y :: m, hl, hm, h => by
    rw [List.pairwise_cons] at hl hm
    have e : x = y := by
      rcases List.mem_cons.mp ((h x).mp List.mem_cons_self) with e | e
      · exact e
      · rcases List.mem_cons.mp ((h y).mpr List.mem_cons_self) with e2 | e2
        · exact e2.symm
        · have a := hm.1 x e; have b := hl.1 y e2; omega
    subst e
    refine congrArg (x :: ·) (pw_same hl.2 hm.2 fun a => ?_)
    constructor
    · intro q
      rcases List.mem_cons.mp ((h a).mp (List.mem_cons_of_mem _ q)) with e | e
      · have := hl.1 a q; omega
      · exact e
    · intro q
      rcases List.mem_cons.mp ((h a).mpr (List.mem_cons_of_mem _ q)) with e | e
      · have := hm.1 a q; omega
      · exact e
theorem ints_rep {K : PySem.W.Frag} {F : Hp} : ∀ {ds : List D} {vs : List V} {ns : List Int}, RepAll K F ds vs → D.ints ds = some ns → vs = ns.map V.int
  | [], _, ns, h, e => by
    unfold D.ints at e
    cases e
    rw [h.inv0] <;> rfl
  | d :: ds, _, ns, h, e => by
    obtain ⟨v, r, rfl, h1, h2⟩ := h.inv
    cases d with
    | int i =>
      unfold D.ints at e
      split at e
      · rename_i is e2
        cases e
        unfold Rep at h1
        rw [h1, ints_rep h2 e2] <;> rfl
      · cases e
    | _ => simp [D.ints] at e
theorem rep_ints {K : PySem.W.Frag} {F : Hp} : ∀ ns : List Int, RepAll K F (ns.map D.int) (ns.map V.int)
  | [] => .nil
  | n :: ns => .cons (by unfold Rep; rfl) (rep_ints ns)
theorem s_ss (x : XOk k X) {a : E} {e : PySem.Expr} {p1 p2 : Pos} (hg : Gl X "sorted") (hm : X.mg "sorted" = none) (hg2 : Gl X "set") (hm2 : X.mg "set" = none) (ha : PE X e (tP X.K xr W Φ a)) (hs : nst e = true) :
    PE X (.Call (.Name "sorted" p0) [.Call (.Name "set" p1) [e] [] p2] [] pos) (tR X.K xr W Φ (.p1 .sortedSet a)) :=
  pe_imp (pe_bltF (.inl ⟨_, rfl⟩) (cr_sortedSet x.calm) hg hm (by decide +kernel) (pa_cons (pe_bltF (.inr ⟨_, rfl⟩) (call_setI x.calm) hg2 hm2 (by decide +kernel) (pa_cons ha pa_nil (star_cons hs)) (by decide) (by decide) (by rw [List.all_cons, hs]; rfl)) pa_nil rfl) (by decide) (by decide) rfl) fun σ H Q ⟨F, env, r, q⟩ => by
    have q' : Rd X.K xr W σ (vR X.K σ) F H env ((asP a (ev Φ a env) env).bind fun x e1 => match resolve e1 x with
      | some d => lift (p1Op thePar .sortedSet d) e1
      | none => none) Q := q
    refine ⟨F, env, r, (Rd.bind (VA := vP X.K σ) q').imp fun v H1 ⟨px, F1, env1, _, s1, h1, q1⟩ => ?_⟩
    split at q1
    · rename_i d ed
      cases d with
      | lst xs =>
        cases en : D.ints xs with
        | none =>
          have e0 : p1Op thePar .sortedSet (.lst xs) = none := by simp only [p1Op, en]
          rw [e0] at q1; exact q1.elim
        | some ns =>
          by_cases hz : ns.length < 64
          · have e0 : p1Op thePar .sortedSet (.lst xs) = some (.o (.lst ((sortI (dedupI ns)).map D.int))) := by simp only [p1Op, en, if_pos hz]
            rw [e0] at q1
            obtain ⟨l, vs, rfl, hl, rv⟩ : ∃ l vs, v = .ref l ∧ H1 l = some (.lst vs) ∧ RepAll X.K F1 xs vs := resolve_ok (F := F) h1 (Stp.refl s1.rel) ed
            have ev2 := ints_rep rv en
            subst ev2
            refine ⟨l, ns, rfl, .inl (.inl hl), hz, fun p c hp hc => ?_⟩
            have g1 := GoN.one s1.rel.le hp (SetO X.w p (fun j => decide (j ∈ ns)) c)
            refine ⟨p, _, c, rfl, upd_same, by omega, fun ms p' pw mem hlen hp' => ?_⟩
            have em : ms = sortI (dedupI ns) := pw_same pw (pw_sortI (nd_dedupI ns)) fun k => by rw [mem k, mem_sortI, mem_dedupI, decide_eq_true_eq]
            subst em
            have g2 := GoN.one g1.le hp' (.lst ((sortI (dedupI ns)).map V.int))
            have post : OpPost X.K F1 H1 (.o (.lst ((sortI (dedupI ns)).map D.int))) Q := q1.post s1.rel
            have hp1 : H1 p' = none := by
              cases z : H1 p' with
              | none => rfl
              | some u => rw [g1.keep p' u z] at hp'; cases hp'
            exact post p' _ hp1 (g1.trans g2) ⟨_, upd_same, rep_ints _⟩
          · have e0 : p1Op thePar .sortedSet (.lst xs) = none := by simp only [p1Op, en, if_neg hz]
            rw [e0] at q1; exact q1.elim
      | _ => exact q1.elim
    · exact q1.elim
end
end Py

/-! Snd3: what is walked; list comprehensions. -/
namespace Py
open PySem PySem.Spec PyProof.Rows L2

/-- the walk yields the items of ds, one by one -/
structure Wk (K : PySem.W.Frag) (F : Hp) (J : L2.It) (ds : List D) : Prop where
  go : ∀ (F' H' : Hp) (i : Nat) (d : D), Le F F' → Le F' H' → ds[i]? = some d → J.go i H' ∧ ∀ x H'', J.yld i H' x H'' → ∃ F'', GoN F' H' F'' H'' ∧ Rep K F'' d x
  stop : ∀ (F' H' : Hp), Le F F' → Le F' H' → J.stop ds.length H'
theorem Wk.mono {K : PySem.W.Frag} {F F1 : Hp} {J : L2.It} {ds : List D} (h : Wk K F J ds) (m : Le F F1) : Wk K F1 J ds :=
  ⟨fun F' H' i d a b e => h.go F' H' i d (m.trans a) b e, fun F' H' a b => h.stop F' H' (m.trans a) b⟩
theorem wk_list {K : PySem.W.Frag} {F : Hp} {a : Addr} {ds : List D} {vs : List V} (h : F a = some (.lst vs)) (r : RepAll K F ds vs) : Wk K F (Itl K a) ds where
  go := fun F' H' i d m l e => by
    obtain ⟨v, hv, rv⟩ := r.get e
    have q : SqL K H' a vs := .inl (.inl (l _ _ (m _ _ h)))
    exact ⟨⟨vs, v, q, hv⟩, fun x H'' ⟨e1, y⟩ => by
      subst e1
      have := y vs q
      rw [hv] at this
      cases this
      exact ⟨F', GoN.refl l, rv.mono m⟩⟩
  stop := fun F' H' m l => ⟨vs, .inl (.inl (l _ _ (m _ _ h))), by rw [r.len]; exact Nat.le_refl _⟩
theorem wk_tup {K : PySem.W.Frag} {F : Hp} {a : Addr} {ds : List D} {vs : List V} (h : F a = some (.tup vs)) (r : RepAll K F ds vs) : Wk K F (Itt K a) ds where
  go := fun F' H' i d m l e => by
    obtain ⟨v, hv, rv⟩ := r.get e
    have q : SqT K H' a vs := .inl (.inl (l _ _ (m _ _ h)))
    exact ⟨⟨vs, v, q, hv⟩, fun x H'' ⟨e1, y⟩ => by
      subst e1
      have := y vs q
      rw [hv] at this
      cases this
      exact ⟨F', GoN.refl l, rv.mono m⟩⟩
  stop := fun F' H' m l => ⟨vs, .inl (.inl (l _ _ (m _ _ h))), by rw [r.len]; exact Nat.le_refl _⟩
theorem wk_str {K : PySem.W.Frag} {F : Hp} {s : List Nat} (h : StrOk s) : Wk K F (Its ⟨s.toArray⟩) (s.map fun c => D.str [c]) where
  go := fun F' H' i d m l e => by
    rw [List.getElem?_map] at e
    cases q : s[i]? with
    | none => rw [q] at e; cases e
    | some c =>
      rw [q] at e
      cases e
      have hi : i < s.length := (List.getElem?_eq_some_iff.mp q).1
      refine ⟨by show i < s.toArray.size; simpa using hi, fun x H'' ⟨e1, c', hc, ev⟩ => ?_⟩
      subst e1 ev
      have hc' : s[i]? = some c' := by simpa using hc
      rw [q] at hc'
      cases hc'
      refine ⟨F', GoN.refl l, ?_⟩
      unfold Rep
      exact ⟨rfl, fun z hz => by rw [List.mem_singleton.mp hz]; exact h.1 c (List.mem_of_getElem? q), by show 1 ≤ lim; decide⟩
  stop := fun F' H' m l => by
    show s.toArray.size ≤ _
    simp
theorem rng_get {lo c : Int} {n i : Nat} {d : D} (e : (rng lo n c)[i]? = some d) : i < n ∧ d = .int (lo + i * c) := by
  unfold rng at e
  rw [List.getElem?_map] at e
  cases q : (List.range n)[i]? with
  | none => rw [q] at e; cases e
  | some j =>
    rw [q] at e
    obtain ⟨hi, ej⟩ := List.getElem?_eq_some_iff.mp q
    rw [List.getElem_range] at ej
    subst ej
    cases e
    exact ⟨by simpa using hi, rfl⟩
theorem wk_rng {K : PySem.W.Frag} {F : Hp} {lo : Int} {n : Nat} : Wk K F (Itr lo n) (rng lo n 1) where
  go := fun F' H' i d m l e => by
    obtain ⟨hi, rfl⟩ := rng_get e
    refine ⟨hi, fun x H'' ⟨e1, ev⟩ => ?_⟩
    subst e1 ev
    exact ⟨F', GoN.refl l, by unfold Rep; rw [Int.mul_one]⟩
  stop := fun F' H' m l => by show n ≤ _; simp [rng]
theorem wk_rngC {K : PySem.W.Frag} {F : Hp} {lo c : Int} {n : Nat} : Wk K F (Itc lo c n) (rng lo n c) where
  go := fun F' H' i d m l e => by
    obtain ⟨hi, rfl⟩ := rng_get e
    refine ⟨hi, fun x H'' ⟨e1, ev⟩ => ?_⟩
    subst e1 ev
    exact ⟨F', GoN.refl l, by unfold Rep; rfl⟩
  stop := fun F' H' m l => by show n ≤ _; simp [rng]
theorem wk_enum {K : PySem.W.Frag} {F : Hp} {a : Addr} {ds : List D} {vs : List V} (h : F a = some (.lst vs)) (r : RepAll K F ds vs) : Wk K F (Ite K a) ((List.range ds.length).zipWith (fun (k : Nat) x => D.tup [.int k, x]) ds) where
  go := fun F' H' i d m l e => by
    rw [List.getElem?_zipWith] at e
    cases q : ds[i]? with
    | none => rw [q] at e; cases z : (List.range ds.length)[i]? <;> rw [z] at e <;> cases e
    | some y =>
      have hi : i < ds.length := (List.getElem?_eq_some_iff.mp q).1
      rw [q, List.getElem?_range hi] at e
      cases e
      obtain ⟨v, hv, rv⟩ := r.get q
      have sq : SqL K H' a vs := .inl (.inl (l _ _ (m _ _ h)))
      refine ⟨⟨vs, v, sq, hv⟩, fun x H'' ⟨T, u, e1, hT, e2, y⟩ => ?_⟩
      subst e1 e2
      have := y vs sq
      rw [hv] at this
      cases this
      have g := GoN.both l hT (.tup [.int (i : Nat), v])
      refine ⟨_, g, ?_⟩
      unfold Rep
      exact ⟨T, _, rfl, upd_same, .cons (by unfold Rep; rfl) (.cons ((rv.mono m).mono g.mono) .nil)⟩
  stop := fun F' H' m l => ⟨vs, .inl (.inl (l _ _ (m _ _ h))), by rw [r.len]; simp⟩
theorem wk_zip {K : PySem.W.Frag} {F : Hp} {a b : Addr} {ds es : List D} {vs us : List V} (h : F a = some (.lst vs)) (r : RepAll K F ds vs) (h2 : F b = some (.lst us)) (r2 : RepAll K F es us) : Wk K F (Itz K a b) (ds.zipWith (fun x y => D.tup [x, y]) es) where
  go := fun F' H' i d m l e => by
    rw [List.getElem?_zipWith] at e
    cases q : ds[i]? with
    | none => rw [q] at e; cases z : es[i]? <;> rw [z] at e <;> cases e
    | some y =>
      cases q2 : es[i]? with
      | none => rw [q, q2] at e; cases e
      | some y2 =>
        rw [q, q2] at e
        cases e
        obtain ⟨v, hv, rv⟩ := r.get q
        obtain ⟨v2, hv2, rv2⟩ := r2.get q2
        have sq : SqL K H' a vs := .inl (.inl (l _ _ (m _ _ h)))
        have sq2 : SqL K H' b us := .inl (.inl (l _ _ (m _ _ h2)))
        refine ⟨⟨vs, us, v, v2, sq, sq2, hv, hv2⟩, fun x H'' ⟨T, u, w, e1, hT, e2, y, y'⟩ => ?_⟩
        subst e1 e2
        have e3 := y vs sq
        have e4 := y' us sq2
        rw [hv] at e3
        rw [hv2] at e4
        cases e3
        cases e4
        have g := GoN.both l hT (.tup [v, v2])
        refine ⟨_, g, ?_⟩
        unfold Rep
        exact ⟨T, _, rfl, upd_same, .cons ((rv.mono m).mono g.mono) (.cons ((rv2.mono m).mono g.mono) .nil)⟩
  stop := fun F' H' m l => ⟨vs, us, .inl (.inl (l _ _ (m _ _ h))), .inl (.inl (l _ _ (m _ _ h2))), by rw [r.len, r2.len, List.length_zipWith]; omega⟩

def vW (K : PySem.W.Frag) (σ : L2.St) : VRel K σ (List D) L2.It := ⟨fun _ _ F' _ _ ds J => Wk K F' J ds, fun _ h => h⟩
def tI (K : PySem.W.Frag) (xr : ExR) (W : WX) (Φ : Sig) (it : Py.It) : TI := fun σ H R => ∃ F env, Rel K F H σ env ∧ Rd K xr W σ (vW K σ) F H env (evIt thePar Φ it env) R
section
variable {X : Cx} {xr : ExR} {W : WX} {Φ : Sig} {pos p0 : Pos} {k : Nat} {tg : PySem.Expr}
theorem pi_imp {e : PySem.Expr} {t t' : TI} (h : PI X tg e t) (i : ∀ σ H R, t' σ H R → t σ H R) : PI X tg e t' := ⟨fun pins s σ H R I q => h.run pins s σ H R I (i σ H R q)⟩
theorem pi_src {a : E} {e : PySem.Expr} (h : PE X e (tD X.K xr W Φ a)) : PI X tg e (tI X.K xr W Φ (.e a)) := ⟨fun pins s σ H R I ⟨F, env, r, q⟩ => by
  have q' : Rd X.K xr W σ (vW X.K σ) F H env ((fzR (ev Φ a env)).bind fun d e1 => lift (items d) e1) R := q
  have q1 := Rd.bind (VA := vD X.K σ) q'
  have other : (∀ d e1, fzR (ev Φ a env) = some (.ok d e1) → items d = none) → wpAny (model X.prog X.w) X.A (eval e X.env) (fun v s1 => wpAny (model X.prog X.w) X.A (pyIter v) (PIE X pins σ tg R) X.xe s1) X.xe s := fun no =>
    (pi_list h).run pins s σ H R I ⟨F, env, r, q1.imp fun v H1 ⟨d, F1, env1, e1, s1, rp, q2⟩ => by
      rw [no d env1 e1] at q2; exact q2.elim⟩
  cases e1 : fzR (ev Φ a env) with
  | none => exact other fun d e2 z => by rw [e1] at z; cases z
  | some o =>
    cases o with
    | ex x e2 => exact other fun d e2 z => by rw [e1] at z; cases z
    | ok d e2 =>
      have same : ∀ {d' : D} {e' : Py.Env}, fzR (ev Φ a env) = some (.ok d' e') → d' = d := fun z => by rw [e1] at z; cases z; rfl
      cases d with
      | lst xs => exact (pi_list h).run pins s σ H R I ⟨F, env, r, q1.imp fun v H1 ⟨d, F1, env1, ed, s1, rp, q2⟩ => by
          have := same ed
          subst this
          have rp' : Rep X.K F1 (.lst xs) v := rp
          unfold Rep at rp'
          obtain ⟨p, vs, rfl, hp, rv⟩ := rp'
          exact ⟨p, rfl, ⟨vs, .inl (.inl (s1.rel.le _ _ hp))⟩, q2 _ F1 H1 (Stp.refl s1.rel) (wk_list hp rv)⟩⟩
      | tup xs => exact (pi_tup h).run pins s σ H R I ⟨F, env, r, q1.imp fun v H1 ⟨d, F1, env1, ed, s1, rp, q2⟩ => by
          have := same ed
          subst this
          have rp' : Rep X.K F1 (.tup xs) v := rp
          unfold Rep at rp'
          obtain ⟨p, vs, rfl, hp, rv⟩ := rp'
          exact ⟨p, rfl, ⟨vs, .inl (.inl (s1.rel.le _ _ hp))⟩, q2 _ F1 H1 (Stp.refl s1.rel) (wk_tup hp rv)⟩⟩
      | str x => exact (pi_str h).run pins s σ H R I ⟨F, env, r, q1.imp fun v H1 ⟨d, F1, env1, ed, s1, rp, q2⟩ => by
          have := same ed
          subst this
          have rp' : Rep X.K F1 (.str x) v := rp
          unfold Rep at rp'
          obtain ⟨rfl, ok⟩ := rp'
          exact ⟨_, rfl, q2 _ F1 H1 (Stp.refl s1.rel) (wk_str ok)⟩⟩
      | _ => exact other fun d e2 z => by rw [same z]; rfl⟩
theorem inI_of {i : Int} (h : inI i = true) : -(2 ^ 62) ≤ i ∧ i < 2 ^ 62 := by
  unfold inI at h
  exact of_decide_eq_true h
theorem pi_r1 {a : E} {e : PySem.Expr} (hg : Gl X "range") (hm : X.mg "range" = none) (h : PE X e (tD X.K xr W Φ a)) (hs : nst e = true) : PI X tg (.Call (.Name "range" p0) [e] [] pos) (tI X.K xr W Φ (.r1 a)) :=
  pi_imp (pi_range1 hg hm (pa_cons h pa_nil (star_cons hs)) (star_cons hs)) fun σ H R ⟨F, env, r, q⟩ => by
    have q' : Rd X.K xr W σ (vW X.K σ) F H env ((fzR (ev Φ a env)).bind fun d e1 => match d with
      | .int j => if inI j then some (.ok (rng 0 j.toNat 1) e1) else none
      | _ => none) R := q
    refine ⟨F, env, r, (Rd.bind (VA := vD X.K σ) q').imp fun v H1 ⟨d, F1, env1, _, s1, h1, q1⟩ => ?_⟩
    split at q1
    · rename_i j _
      split at q1
      · rename_i hj
        have h1' : Rep X.K F1 (.int j) v := h1
        unfold Rep at h1'
        subst h1'
        exact ⟨j, rfl, (inI_of hj).1, (inI_of hj).2, q1 _ F1 H1 (Stp.refl s1.rel) wk_rng⟩
      · exact q1.elim
    · exact q1.elim
theorem pi_r2 {a b : E} {e e2 : PySem.Expr} (hg : Gl X "range") (hm : X.mg "range" = none) (h : PE X e (tD X.K xr W Φ a)) (h2 : PE X e2 (tD X.K xr W Φ b)) (hs : nst e = true) (hs2 : nst e2 = true) : PI X tg (.Call (.Name "range" p0) [e, e2] [] pos) (tI X.K xr W Φ (.r2 a b)) :=
  pi_imp (pi_range2 hg hm (pa_cons h (pa_cons h2 pa_nil (star_cons hs2)) (star_cons hs)) (by rw [star_cons hs, star_cons hs2]; rfl) (star_cons hs2)) fun σ H R ⟨F, env, r, q⟩ => by
    have q' : Rd X.K xr W σ (vW X.K σ) F H env ((fzR (ev Φ a env)).bind fun d e1 => (fzR (ev Φ b e1)).bind fun d2 e2 => match d, d2 with
      | .int i, .int j => if inI i && inI j then some (.ok (rng i (j - i).toNat 1) e2) else none
      | _, _ => none) R := q
    refine ⟨F, env, r, (Rd.bind (VA := vD X.K σ) q').imp fun v H1 ⟨d, F1, env1, ea, s1, h1, q1⟩ => ?_⟩
    refine ⟨F1, env1, s1.rel, (Rd.bind (VA := vD X.K σ) q1).imp fun v2 H2 ⟨d2, F2, env2, eb, s2, h2, q2⟩ => ?_⟩
    have h1' : Rep X.K F2 d v := Rep.mono s2.go.mono h1
    split at q2
    · rename_i i j _
      split at q2
      · rename_i hj
        rw [Bool.and_eq_true] at hj
        have h2' : Rep X.K F2 (.int j) v2 := h2
        unfold Rep at h1' h2'
        subst h1' h2'
        exact ⟨i, j, rfl, ⟨(inI_of hj.1).1, (inI_of hj.1).2, (inI_of hj.2).1, (inI_of hj.2).2⟩, q2 _ F2 H2 (Stp.refl s2.rel) wk_rng⟩
      · exact q2.elim
    · exact q2.elim
theorem rgC_of {i j c : Int} (hi : inI i = true) (hj : inI j = true) (hc : c ≠ 0 ∧ c.natAbs < 1073741824) : RgC i j c (turns i j c) := by
  obtain ⟨i1, i2⟩ := inI_of hi
  obtain ⟨j1, j2⟩ := inI_of hj
  have sz : Builtin.Range.rangeSize i j c = (turns i j c : Int) ∧ 0 ≤ Builtin.Range.rangeSize i j c ∧ Builtin.Range.rangeSize i j c < 2 ^ 63 := by
    unfold Builtin.Range.rangeSize turns
    by_cases h0 : c > 0
    · rw [if_pos h0, if_pos h0]
      split
      · rename_i hl
        have a1 : 0 ≤ (j - i - 1) / c := Int.ediv_nonneg (by omega) (by omega)
        have a2 : (j - i - 1) / c ≤ j - i - 1 := Int.ediv_le_self _ (by omega)
        omega
      · omega
    · rw [if_neg h0, if_neg h0]
      split
      · rename_i hl
        have a1 : 0 ≤ (i - j - 1) / (-c) := Int.ediv_nonneg (by omega) (by omega)
        have a2 : (i - j - 1) / (-c) ≤ i - j - 1 := Int.ediv_le_self _ (by omega)
        omega
      · omega
  refine ⟨hc.1, hc.2, ?_, sz.1⟩
  unfold Builtin.Range.small
  simp only [Builtin.Range.rangeFitsLong, Bool.and_eq_true, Bool.or_eq_true, decide_eq_true_eq, beq_iff_eq]
  obtain ⟨_, s1, s2⟩ := sz
  refine ⟨⟨⟨⟨by omega, by omega⟩, by omega⟩, by omega⟩, .inr ?_⟩
  split <;> simp only [Bool.and_eq_true, decide_eq_true_eq] <;> omega
theorem pi_r3 {a b c : E} {e e2 e3 : PySem.Expr} (hg : Gl X "range") (hm : X.mg "range" = none) (h : PE X e (tD X.K xr W Φ a)) (h2 : PE X e2 (tD X.K xr W Φ b)) (h3 : PE X e3 (tD X.K xr W Φ c)) (hs : nst e = true) (hs2 : nst e2 = true) (hs3 : nst e3 = true) : PI X tg (.Call (.Name "range" p0) [e, e2, e3] [] pos) (tI X.K xr W Φ (.r3 a b c)) :=
  pi_imp (pi_range3 hg hm (pa_cons h (pa_cons h2 (pa_cons h3 pa_nil (star_cons hs3)) (star_cons hs2)) (star_cons hs)) (star_cons hs) (star_any (by simp only [List.all_cons, hs2, hs3]; rfl))) fun σ H R ⟨F, env, r, q⟩ => by
    have q' : Rd X.K xr W σ (vW X.K σ) F H env ((fzR (ev Φ a env)).bind fun d e1 => (fzR (ev Φ b e1)).bind fun d2 e2 => (fzR (ev Φ c e2)).bind fun d3 e3 => match d, d2, d3 with
      | .int i, .int j, .int k => if inI i && inI j && decide (k ≠ 0 ∧ k.natAbs < 1073741824) then some (.ok (rng i (turns i j k) k) e3) else none
      | _, _, _ => none) R := q
    refine ⟨F, env, r, (Rd.bind (VA := vD X.K σ) q').imp fun v H1 ⟨d, F1, env1, ea, s1, h1, q1⟩ => ?_⟩
    refine ⟨F1, env1, s1.rel, (Rd.bind (VA := vD X.K σ) q1).imp fun v2 H2 ⟨d2, F2, env2, eb, s2, h2, q2⟩ => ?_⟩
    refine ⟨F2, env2, s2.rel, (Rd.bind (VA := vD X.K σ) q2).imp fun v3 H3 ⟨d3, F3, env3, ec, s3, h3, q3⟩ => ?_⟩
    have h1' : Rep X.K F3 d v := Rep.mono s3.go.mono (Rep.mono s2.go.mono h1)
    have h2' : Rep X.K F3 d2 v2 := Rep.mono s3.go.mono h2
    split at q3
    · rename_i i j c' _ _
      split at q3
      · rename_i hj
        rw [Bool.and_eq_true, Bool.and_eq_true, decide_eq_true_eq] at hj
        have h3' : Rep X.K F3 (.int c') v3 := h3
        unfold Rep at h1' h2' h3'
        subst h1' h2' h3'
        exact ⟨i, j, c', _, rfl, rgC_of hj.1.1 hj.1.2 hj.2, q3 _ F3 H3 (Stp.refl s3.rel) wk_rngC⟩
      · exact q3.elim
    · exact q3.elim
theorem pi_en {a : E} {e : PySem.Expr} {elts : List PySem.Expr} {kk : Nat} {tpos : Pos} (hg : Gl X "enumerate") (hm : X.mg "enumerate" = none) (h : PE X e (tD X.K xr W Φ a)) (hs : nst e = true) : PI X (.Tuple elts kk tpos) (.Call (.Name "enumerate" p0) [e] [] pos) (tI X.K xr W Φ (.en a)) :=
  pi_imp (pi_enum hg hm (pa_cons h pa_nil (star_cons hs)) (star_cons hs)) fun σ H R ⟨F, env, r, q⟩ => by
    have q' : Rd X.K xr W σ (vW X.K σ) F H env ((fzR (ev Φ a env)).bind fun d e1 => match d with
      | .lst xs => some (.ok ((List.range xs.length).zipWith (fun (k : Nat) x => D.tup [.int k, x]) xs) e1)
      | _ => none) R := q
    refine ⟨F, env, r, (Rd.bind (VA := vD X.K σ) q').imp fun v H1 ⟨d, F1, env1, ea, s1, h1, q1⟩ => ?_⟩
    split at q1
    · rename_i xs
      have h1' : Rep X.K F1 (.lst xs) v := h1
      unfold Rep at h1'
      obtain ⟨p, vs, rfl, hp, rv⟩ := h1'
      exact ⟨p, vs, rfl, .inl (.inl (s1.rel.le _ _ hp)), q1 _ F1 H1 (Stp.refl s1.rel) (wk_enum hp rv)⟩
    · exact q1.elim
theorem pi_zp {a b : E} {e e2 : PySem.Expr} {elts : List PySem.Expr} {kk : Nat} {tpos : Pos} (hg : Gl X "zip") (hm : X.mg "zip" = none) (h : PE X e (tD X.K xr W Φ a)) (h2 : PE X e2 (tD X.K xr W Φ b)) (hs : nst e = true) (hs2 : nst e2 = true) : PI X (.Tuple elts kk tpos) (.Call (.Name "zip" p0) [e, e2] [] pos) (tI X.K xr W Φ (.zp a b)) :=
  pi_imp (pi_zip hg hm (pa_cons h (pa_cons h2 pa_nil (star_cons hs2)) (star_cons hs)) (star_cons hs) (star_any (by simp only [List.all_cons, hs2]; rfl))) fun σ H R ⟨F, env, r, q⟩ => by
    have q' : Rd X.K xr W σ (vW X.K σ) F H env ((fzR (ev Φ a env)).bind fun d e1 => (fzR (ev Φ b e1)).bind fun d2 e2 => match d, d2 with
      | .lst xs, .lst ys => some (.ok (xs.zipWith (fun x y => D.tup [x, y]) ys) e2)
      | _, _ => none) R := q
    refine ⟨F, env, r, (Rd.bind (VA := vD X.K σ) q').imp fun v H1 ⟨d, F1, env1, ea, s1, h1, q1⟩ => ?_⟩
    refine ⟨F1, env1, s1.rel, (Rd.bind (VA := vD X.K σ) q1).imp fun v2 H2 ⟨d2, F2, env2, eb, s2, h2, q2⟩ => ?_⟩
    have h1' : Rep X.K F2 d v := Rep.mono s2.go.mono h1
    split at q2
    · rename_i xs ys _
      have h2' : Rep X.K F2 (.lst ys) v2 := h2
      unfold Rep at h1' h2'
      obtain ⟨p, vs, rfl, hp, rv⟩ := h1'
      obtain ⟨p2, us, rfl, hp2, ru⟩ := h2'
      exact ⟨p, p2, vs, us, rfl, .inl (.inl (s2.rel.le _ _ hp)), .inl (.inl (s2.rel.le _ _ hp2)), q2 _ F2 H2 (Stp.refl s2.rel) (wk_zip hp rv hp2 ru)⟩
    · exact q2.elim
end
end Py

/-! Snd4: targets, list comprehensions. -/
namespace Py
open PySem PySem.Spec PyProof.Rows L2

/-- only these slots differ -/
structure Bnd (is : List Nat) (σ σ' : L2.St) : Prop where
  len : σ'.length = σ.length
  same : ∀ j, j ∉ is → σ'[j]? = σ[j]?
theorem Bnd.refl (is : List Nat) (σ : L2.St) : Bnd is σ σ := ⟨rfl, fun _ _ => rfl⟩
theorem Bnd.trans {is : List Nat} {σ σ' σ'' : L2.St} (a : Bnd is σ σ') (b : Bnd is σ' σ'') : Bnd is σ σ'' := ⟨b.len.trans a.len, fun j h => (b.same j h).trans (a.same j h)⟩
theorem Bnd.mono {is js : List Nat} {σ σ' : L2.St} (a : Bnd is σ σ') (h : ∀ i ∈ is, i ∈ js) : Bnd js σ σ' := ⟨a.len, fun j hj => a.same j fun z => hj (h j z)⟩
theorem bnd_set {i : Nat} {σ : L2.St} {v : Option V} : Bnd [i] σ (σ.set i v) := ⟨List.length_set, fun j h => List.getElem?_set_ne fun e => h (by rw [e]; exact List.mem_singleton.mpr rfl)⟩
def nameT : Py.T → Option Nat
  | .n i => some i
  | _ => none
def tG (K : PySem.W.Frag) (t : Py.T) : TG := fun v σ H Q => ∃ F env d, Rel K F H σ env ∧ Rep K F d v ∧ match bindT t d env with
  | some (.ok _ env') => ∀ σ', Bnd (slotsT t) σ σ' → Rel K F H σ' env' → (∀ p, Owns env' σ' p → Owns env σ p) → Sub env' env → Q σ' H
  | _ => False
def tGs (K : PySem.W.Frag) (ts : List Py.T) : TGs := fun vs σ H Q => ∃ F env ds, Rel K F H σ env ∧ RepAll K F ds vs ∧ match setNs ts ds env with
  | some (.ok _ env') => ∀ σ', Bnd (ts.filterMap nameT) σ σ' → Rel K F H σ' env' → (∀ p, Owns env' σ' p → Owns env σ p) → Sub env' env → Q σ' H
  | _ => False
theorem slotsT_t (ts : List Py.T) : slotsT (.t ts) = ts.filterMap nameT := by
  unfold slotsT
  congr 1
theorem sub_fz {i : Nat} {d : D} {env : Py.Env} : Sub (env.set i (.fz d)) env := sub_set fun _ z => nomatch z
section
variable {X : Cx} {xr : ExR} {W : WX} {Φ : Sig} {pos p0 : Pos} {k : Nat}
theorem pg_imp {e : PySem.Expr} {t t' : TG} (h : PG X e t) (i : ∀ v σ H Q, t' v σ H Q → t v σ H Q) : PG X e t' := ⟨fun pins s σ H v u Q I r q => h.run pins s σ H v u Q I r (i v σ H Q q)⟩
theorem pgs_imp {es : List PySem.Expr} {t t' : TGs} (h : PGs X es t) (i : ∀ vs σ H Q, t' vs σ H Q → t vs σ H Q) : PGs X es t' := ⟨fun pins s σ H v u Q I r q => h.run pins s σ H v u Q I r (i v σ H Q q)⟩
/-- where a name may be stored -/
structure StOk (X : Cx) (x : Str) : Prop where
  loc : Loc X.env.scope x
  fn : X.fn x = true ∨ X.env.scope.names.lookup x = some .local
theorem g_n (hN : X.N.Nodup) {i : Nat} {x : Str} (hi : X.N[i]? = some x) (ok : StOk X x) : PG X (.Name x pos) (tG X.K (.n i)) :=
  pg_imp (pg_name hN hi ok.loc ok.fn) fun v σ H Q ⟨F, env, d, r, rp, q⟩ => q (σ.set i (some v)) bnd_set (r.store rp) (fun _ h => owns_store h) sub_fz
theorem g_nil : PGs X [] (tGs X.K []) := pgs_imp pgs_nil fun vs σ H Q ⟨F, env, ds, r, rp, q⟩ => by
  cases ds with
  | nil => exact ⟨rp.inv0, q σ (Bnd.refl _ _) r (fun _ h => h) (Sub.refl _)⟩
  | cons d ds => exact q.elim
theorem g_cons (hN : X.N.Nodup) {i : Nat} {x : Str} {ts : List Py.T} {es : List PySem.Expr} (hi : X.N[i]? = some x) (ok : StOk X x) (h : PGs X es (tGs X.K ts)) : PGs X (.Name x pos :: es) (tGs X.K (.n i :: ts)) :=
  pgs_imp (pgs_cons (pg_name hN hi ok.loc ok.fn) h rfl) fun vs σ H Q ⟨F, env, ds, r, rp, q⟩ => by
    cases ds with
    | nil => exact q.elim
    | cons d ds =>
      obtain ⟨v, vr, rfl, h1, h2⟩ := rp.inv
      refine ⟨v, vr, rfl, F, env.set i (.fz d), ds, r.store h1, h2, ?_⟩
      have q' : match setNs ts ds (env.set i (.fz d)) with
        | some (.ok _ env') => ∀ σ', Bnd ((Py.T.n i :: ts).filterMap nameT) σ σ' → Rel X.K F H σ' env' → (∀ p, Owns env' σ' p → Owns env σ p) → Sub env' env → Q σ' H
        | _ => False := q
      split at q'
      · rename_i u env' e
        refine fun σ' b r' o s => q' σ' ?_ r' (fun p hp => owns_store (o p hp)) (s.trans sub_fz)
        exact (bnd_set.mono fun j hj => by rw [List.mem_singleton.mp hj]; simp [nameT]).trans (b.mono fun j hj => by simp only [List.filterMap_cons, nameT]; exact List.mem_cons_of_mem _ hj)
      · exact q'.elim
/-- names alone -/
def allNm : List PySem.Expr → Bool
  | [] => true
  | .Name _ _ :: es => allNm es
  | _ => false
theorem names_len : ∀ {es : List PySem.Expr} {env : PySem.Env}, allNm es = true → (assignEach es env).length = es.length ∧ (assignEach es env).findIdx? (·.1) = none
  | [], _, _ => ⟨rfl, rfl⟩
  | e :: es, env, h => by
    cases e with
    | Name x p =>
      have h' : allNm es = true := h
      obtain ⟨h1, h2⟩ := names_len (env := env) h'
      have e : assignEach (.Name x p :: es) env = (false, assign (.Name x p) env) :: assignEach es env := rfl
      rw [e, List.length_cons, h1, List.length_cons, List.findIdx?_cons, h2]
      exact ⟨rfl, rfl⟩
    | _ => cases h
theorem g_t (hc : X.calm = true) {ts : List Py.T} {es : List PySem.Expr} {x1 : Nat} (hn : allNm es = true) (hl : es.length = ts.length) (h : PGs X es (tGs X.K ts)) : PG X (.Tuple es x1 pos) (tG X.K (.t ts)) :=
  pg_imp (pg_tup hc h (names_len hn).1 (names_len hn).2) fun v σ H Q ⟨F, env, d, r, rp, q⟩ => by
    cases d with
    | tup ds =>
      unfold Rep at rp
      obtain ⟨a, vs, rfl, ha, rv⟩ := rp
      have q' : match setNs ts ds env with
        | some (.ok _ env') => ∀ σ', Bnd (slotsT (.t ts)) σ σ' → Rel X.K F H σ' env' → (∀ p, Owns env' σ' p → Owns env σ p) → Sub env' env → Q σ' H
        | _ => False := q
      rw [slotsT_t] at q'
      refine ⟨a, vs, rfl, .inl (.inl (r.le _ _ ha)), ?_, F, env, ds, r, rv, q'⟩
      rw [rv.len, hl]
      have len : ∀ (ts : List Py.T) (ds : List D) (e e' : Py.Env) (u : Unit), setNs ts ds e = some (.ok u e') → ds.length = ts.length := by
        intro ts
        induction ts with
        | nil => intro ds e e' u h; cases ds with
          | nil => rfl
          | cons d ds => cases h
        | cons t ts ih => intro ds e e' u h; cases ds with
          | nil => cases h
          | cons d ds =>
            have h' : ((setN t d e).bind fun _ e1 => setNs ts ds e1) = some (.ok u e') := h
            cases q : setN t d e with
            | none => rw [q] at h'; cases h'
            | some o =>
              rw [q] at h'
              cases o with
              | ex x e2 => cases h'
              | ok a e2 => rw [List.length_cons, List.length_cons, ih ds e2 e' u h']
      split at q'
      · rename_i u env' e; exact len _ _ _ _ _ e
      · exact q'.elim
    | _ => exact q.elim

/-! a comprehension's tests -/
def tCs (K : PySem.W.Frag) (xr : ExR) (W : WX) (Φ : Sig) (cs : List E) : TT := fun σ H Q => ∃ F env, Rel K F H σ env ∧ Rd K xr W σ (vB K σ) F H env (evCs thePar Φ cs env) Q
theorem pts_imp {es : List PySem.Expr} {t t' : TT} (h : PTs X es t) (i : ∀ σ H Q, t' σ H Q → t σ H Q) : PTs X es t' := ⟨fun pins s σ H Q I q => h.run pins s σ H Q I (i σ H Q q)⟩
theorem ts_nil : PTs X [] (tCs X.K xr W Φ []) := pts_imp pts_nil fun σ H Q ⟨F, env, r, q⟩ => q true F H (Stp.refl r) rfl
theorem ts_one {c : E} {e : PySem.Expr} (h : PT X e (tT X.K xr W Φ c)) : PTs X [e] (tCs X.K xr W Φ [c]) := pts_imp (pts_one h) fun σ H Q ⟨F, env, r, q⟩ => by
  have q' : Rd X.K xr W σ (vB X.K σ) F H env (((ev Φ c env).bind asBool).bind fun b e1 => if b then some (.ok true e1) else some (.ok false e1)) Q := q
  refine ⟨F, env, r, (Rd.bind (VA := vB X.K σ) q').imp fun b H1 ⟨a, F1, env1, _, s, e, q1⟩ => ?_⟩
  have e' : a = b := e
  subst e'
  cases a with
  | true => exact q1 true F1 H1 (Stp.refl s.rel) rfl
  | false => exact q1 false F1 H1 (Stp.refl s.rel) rfl

/-! the comprehension -/
def turnOf (Φ : Sig) (t : Py.T) (cs : List E) (el : E) : D → Py.Env → R (Option D) := fun d e => nox ((bindT t d (wipeS (slotsT t) e)).bind fun _ e2 => (evCs thePar Φ cs e2).bind fun b e3 => if b then (fzR (ev Φ el e3)).bind fun y e4 => some (.ok (some y) e4) else some (.ok none e3))
theorem nox_ok {α β γ δ : Type} {m : R α} {f : α → Py.Env → R β} {g : β → Py.Env → R γ} {K : PySem.W.Frag} {σ : L2.St} {VC : VRel K σ γ δ} {F H : Hp} {env : Py.Env} {Q : δ → Hp → Prop} (h : Rd K xr W σ VC F H env ((nox (m.bind f)).bind g) Q) :
    ∃ a e, m = some (.ok a e) ∧ Rd K xr W σ VC F H env ((nox (f a e)).bind g) Q := by
  cases m with
  | none => exact h.elim
  | some o =>
    cases o with
    | ex x e => exact h.elim
    | ok a e => exact ⟨a, e, rfl, h⟩
theorem Rel.wipe {K : PySem.W.Frag} {F H : Hp} {σ σ' : L2.St} {env : Py.Env} {vs : List Nat} (r : Rel K F H σ env) (hl : σ'.length = σ.length) (hs : ∀ j, j ∉ vs → σ'[j]? = σ[j]?) : Rel K F H σ' (wipeS vs env) where
  le := r.le
  len := by rw [wipeS_len, r.len, hl]
  slot := fun i s h => by
    by_cases hi : i ∈ vs
    · rw [wipeS_in hi h]; exact True.intro
    · rw [wipeS_out hi] at h
      rw [hs i hi]
      exact r.slot i s h
  apart := fun i j oi oj p h1 h2 h3 h4 => by
    have ni : i ∉ vs := fun z => nomatch wipeS_in z h1
    have nj : j ∉ vs := fun z => nomatch wipeS_in z h2
    rw [wipeS_out ni] at h1
    rw [wipeS_out nj] at h2
    rw [hs i ni] at h3
    rw [hs j nj] at h4
    exact r.apart i j oi oj p h1 h2 h3 h4
theorem owns_wipe {σ σ' : L2.St} {env : Py.Env} {vs : List Nat} {p : Addr} (hs : ∀ j, j ∉ vs → σ'[j]? = σ[j]?) (h : Owns (wipeS vs env) σ' p) : Owns env σ p := by
  obtain ⟨j, o, h1, h2⟩ := h
  have nj : j ∉ vs := fun z => nomatch wipeS_in z h1
  rw [wipeS_out nj] at h1
  rw [hs j nj] at h2
  exact ⟨j, o, h1, h2⟩
theorem sub_wipe {env : Py.Env} {vs : List Nat} : Sub (wipeS vs env) env := fun j o h => by
  have nj : j ∉ vs := fun z => nomatch wipeS_in z h
  rw [wipeS_out nj] at h
  exact ⟨o, h⟩
theorem sub_wipe2 {env env1 : Py.Env} {vs : List Nat} (h : Sub env env1) : Sub (wipeS vs env) (wipeS vs env1) := fun j o q => by
  have nj : j ∉ vs := fun z => nomatch wipeS_in z q
  rw [wipeS_out nj] at q
  rw [wipeS_out nj]
  exact h j o q
theorem wipe_idem : ∀ {vs : List Nat} {env : Py.Env} {j : Nat} {o : OD}, (wipeS vs (wipeS vs env))[j]? = some (.own o) → (wipeS vs env)[j]? = some (.own o) := fun {vs env j o} h => by
  have nj : j ∉ vs := fun z => nomatch wipeS_in z h
  rw [wipeS_out nj] at h
  exact h
theorem hid_no {is : List Nat} {e : Py.Env} (h : hidable is e = true) {i : Nat} (hi : i ∈ is) {o : OD} : e.getD i .un ≠ .own o := fun z => by
  unfold hidable at h
  have := List.all_eq_true.mp h i hi
  rw [z] at this
  cases this
/-- back in the def: what the comprehension's names hid has come back -/
theorem Rel.back {K : PySem.W.Frag} {F H F1 H1 : Hp} {σ σw : L2.St} {env env1 : Py.Env} {vs : List Nat} (r1 : Rel K F1 H1 σ env1) (m : Le F1 F) (hid : hidable vs env1 = true) (r : Rel K F H σw (wipeS vs env)) (hl : σw.length = σ.length) (hs : ∀ j, j ∉ vs → σw[j]? = σ[j]?) : Rel K F H σ (backS vs env1 env) where
  le := r.le
  len := by rw [backS_len, ← hl, ← r.len, wipeS_len]
  slot := fun i s h => by
    by_cases hi : i ∈ vs
    · have e := backS_in hi h
      cases q : env1[i]? with
      | none =>
        have : s = .un := by rw [e, List.getD_eq_getElem?_getD, q]; rfl
        subst this
        exact True.intro
      | some s1 =>
        have es : s = s1 := by rw [e, List.getD_eq_getElem?_getD, q]; rfl
        subst es
        have so := r1.slot i s q
        cases s with
        | un => exact True.intro
        | fz d => obtain ⟨v, e1, h1⟩ := so; exact ⟨v, e1, h1.mono m⟩
        | own o => exact absurd (by rw [List.getD_eq_getElem?_getD, q]; rfl) (hid_no hid hi (o := o))
        | exc x => exact so
    · rw [backS_out hi] at h
      rw [← hs i hi]
      exact r.slot i s (by rw [wipeS_out hi]; exact h)
  apart := fun i j oi oj p h1 h2 h3 h4 => by
    have no : ∀ {x : Nat} {o : OD}, (backS vs env1 env)[x]? = some (.own o) → x ∉ vs := fun {x o} hx z => hid_no hid z (backS_in z hx).symm
    have ni := no h1
    have nj := no h2
    rw [backS_out ni] at h1
    rw [backS_out nj] at h2
    exact r.apart i j oi oj p (by rw [wipeS_out ni]; exact h1) (by rw [wipeS_out nj]; exact h2) (by rw [hs i ni]; exact h3) (by rw [hs j nj]; exact h4)
theorem wipe_bnd {σ σ' : L2.St} {vs : List Nat} (b : Bnd vs (L2.wipe σ vs) σ') : L2.wipe σ' vs = L2.wipe σ vs := by
  refine List.ext_getElem? fun j => ?_
  by_cases h : j ∈ vs
  · have cut : ∀ (τ : L2.St), τ.length = σ.length → (L2.wipe τ vs)[j]? = if j < σ.length then some none else none := by
      intro τ ht
      by_cases hl : j < σ.length
      · rw [if_pos hl]
        cases q : (L2.wipe τ vs)[j]? with
        | none =>
          have := List.getElem?_eq_none_iff.mp q
          rw [wipe_length] at this
          omega
        | some o =>
          cases o with
          | none => rfl
          | some x => exact absurd h (wipe_some q).2
      · rw [if_neg hl]
        exact List.getElem?_eq_none (by rw [wipe_length]; omega)
    rw [cut σ' (by rw [b.len, wipe_length]), cut σ rfl]
  · rw [wipe_out h, b.same j h]
theorem s_lc {el : E} {t : Py.T} {it : Py.It} {cs : List E} {elt tg iter : PySem.Expr} {ifs : List PySem.Expr} {scope : Scope} {own : List (Str × Nat)} (x : XOk k X) (hi : PI X tg iter (tI X.K xr W Φ it)) (ok : BlkOk X.N X.env.scope scope own) (hown : own.map (·.2) = slotsT t)
    (hg : ∀ (s : Shared) (H : Hp) (C : Addr) (cl : List (Str × Addr)) (fp : List Addr), PG (X.blk s H scope (compEnvC scope cl C X.env) fp) tg (tG X.K t))
    (ht : ∀ (s : Shared) (H : Hp) (C : Addr) (cl : List (Str × Addr)) (fp : List Addr), PTs (X.blk s H scope (compEnvC scope cl C X.env) fp) ifs (tCs X.K xr (fun _ _ _ _ => False) Φ cs))
    (he : ∀ (s : Shared) (H : Hp) (C : Addr) (cl : List (Str × Addr)) (fp : List Addr), PE (X.blk s H scope (compEnvC scope cl C X.env) fp) elt (tD X.K xr (fun _ _ _ _ => False) Φ el)) :
    ∀ σ H Q, tR X.K xr W Φ (.lc el t it cs) σ H Q → tLc (tI X.K xr W Φ it) (tG X.K t) (tCs X.K xr (fun _ _ _ _ => False) Φ cs) (tD X.K xr (fun _ _ _ _ => False) Φ el) (own.map (·.2)) σ H Q := by
  rintro σ H Q ⟨F, env, r, q⟩
  rw [hown]
  generalize hvs : slotsT t = vs
  have q' : Rd X.K xr W σ (vR X.K σ) F H env ((evIt thePar Φ it env).bind fun ds e1 => if hidable vs e1 then (lcLoop (turnOf Φ t cs el) ds e1 []).bind fun ys e2 => some (.ok (.o (.lst ys)) (backS vs e1 e2)) else none) Q := by
    rw [← hvs]; exact q
  refine ⟨F, env, r, (Rd.bind (VA := vW X.K σ) q').imp fun J H1 ⟨ds, F1, env1, _, s1, wk, q1⟩ => ?_⟩
  have wk : Wk X.K F1 J ds := wk
  intro D hD
  by_cases hid : hidable vs env1 = true
  · rw [if_pos hid] at q1
    have r1 := s1.rel
    have hws : ∀ j, j ∉ vs → (L2.wipe σ vs)[j]? = σ[j]? := fun j hj => wipe_out hj
    have hwl : (L2.wipe σ vs).length = σ.length := wipe_length σ vs
    have hF1 : F1 D = none := r1.le.none hD
    have noD : ∀ p, Owns env1 σ p → p ≠ D := fun p hp e => by
      obtain ⟨_, o, ho⟩ := r1.owned hp
      rw [e, hD] at ho; cases ho
    refine ⟨fun i m H => ∃ F e acc av, i ≤ ds.length ∧ m = ds.length - i ∧ Rel X.K F H (L2.wipe σ vs) (wipeS vs e) ∧ Go F1 H1 F H (Owns env1 σ) ∧ Sub (wipeS vs e) (wipeS vs env1) ∧ (∀ p, Owns (wipeS vs e) (L2.wipe σ vs) p → Owns env1 σ p) ∧ H D = some (.lst av) ∧ F D = none ∧ RepAll X.K F acc av ∧
      Rd X.K xr W σ (vR X.K σ) F1 H1 env1 ((lcLoop (turnOf Φ t cs el) (ds.drop i) e acc).bind fun ys e2 => some (.ok (.o (.lst ys)) (backS vs env1 e2))) Q, ⟨ds.length, F1, env1, [], [], Nat.zero_le _, rfl, ?_, ?_, Sub.refl _, fun p hp => owns_wipe hws hp, upd_same, hF1, .nil, q1⟩, ?_⟩
    · exact ((r1.off (o := .lst []) hF1 fun z => noD _ z rfl).wipe hwl hws)
    · exact (Go.refl F1 H1 _).off hD
    · rintro i m H2 ⟨F2, e, acc, av, hle, rfl, r2, g2, sb2, ow2, hD2, hF2, ra, q2⟩
      have noD2 : ¬ Owns (wipeS vs e) (L2.wipe σ vs) D := fun z => noD _ (ow2 _ z) rfl
      by_cases hlt : i < ds.length
      · right
        have ed : ds.drop i = ds[i] :: ds.drop (i + 1) := List.drop_eq_getElem_cons hlt
        have hget : ds[i]? = some ds[i] := List.getElem?_eq_getElem hlt
        generalize hd : ds[i] = d at ed hget
        rw [ed] at q2
        obtain ⟨hgo, hy⟩ := wk.go F2 H2 i d g2.mono r2.le hget
        refine ⟨hgo, _, fun H' n => ⟨ds.length - (i + 1), by omega, n⟩, fun v H3 y => ?_⟩
        obtain ⟨F3, g3, rp3⟩ := hy v H3 y
        have r3 := r2.goN g3
        have q3 : Rd X.K xr W σ (vR X.K σ) F1 H1 env1 ((nox ((bindT t d (wipeS vs e)).bind fun _ e2 => (evCs thePar Φ cs e2).bind fun b e3 => if b then (fzR (ev Φ el e3)).bind fun y e4 => some (.ok (some y) e4) else some (.ok none e3))).bind fun r e1 => (match r with
          | some y => if acc.length < lim then lcLoop (turnOf Φ t cs el) (ds.drop (i + 1)) e1 (acc ++ [y]) else none
          | none => lcLoop (turnOf Φ t cs el) (ds.drop (i + 1)) e1 acc).bind fun ys e2 => some (.ok (.o (.lst ys)) (backS vs env1 e2))) Q := by
          rw [← hvs]
          rw [← hvs] at q2
          have z : lcLoop (turnOf Φ t cs el) (d :: ds.drop (i + 1)) e acc = (turnOf Φ t cs el d e).bind fun r e1 => match r with
            | some y => if acc.length < lim then lcLoop (turnOf Φ t cs el) (ds.drop (i + 1)) e1 (acc ++ [y]) else none
            | none => lcLoop (turnOf Φ t cs el) (ds.drop (i + 1)) e1 acc := rfl
          rw [z, bind_bind] at q2
          exact q2
        obtain ⟨_, e2, eb, q4⟩ := nox_ok q3
        refine ⟨F3, wipeS vs e, d, r3, rp3, ?_⟩
        rw [eb]
        intro σ2 b2 r4 ow4 sb4
        rw [hvs] at b2
        have hw := wipe_bnd b2
        refine ⟨hw, ?_⟩
        have hs2 : ∀ j, j ∉ vs → (L2.wipe σ vs)[j]? = σ2[j]? := fun j hj => (b2.same j hj).symm
        have hl2 : (L2.wipe σ vs).length = σ2.length := b2.len.symm
        obtain ⟨b, e3, ec, q5⟩ := nox_ok q4
        have g13 : Go F1 H1 F3 H3 (Owns env1 σ) := g2.trans (g3.go _) fun _ h => h
        -- what holds behind a later step within the turn
        have after : ∀ {F' H' : Hp} {e' : Py.Env}, Stp X.K σ2 F3 H3 e2 F' H' e' → Go F1 H1 F' H' (Owns env1 σ) ∧ Sub (wipeS vs e') (wipeS vs env1) ∧ (∀ p, Owns (wipeS vs e') (L2.wipe σ vs) p → Owns env1 σ p) ∧ H' D = some (.lst av) ∧ F' D = none ∧ Rel X.K F' H' (L2.wipe σ vs) (wipeS vs e') ∧ RepAll X.K F' acc av := fun {F' H' e'} s => by
          have own2 : ∀ p, Owns e2 σ2 p → Owns env1 σ p := fun p hp => ow2 p (ow4 p hp)
          have hD3 : H3 D = some (.lst av) := g3.keep _ _ hD2
          have hF3 : F3 D = none := by
            cases z : F3 D with
            | none => rfl
            | some u =>
              rcases g3.new D u z with z2 | z2
              · rw [hF2] at z2; cases z2
              · rw [hD2] at z2; cases z2
          have nD : ¬ Owns e2 σ2 D := fun z => noD _ (own2 _ z) rfl
          refine ⟨g13.trans s.go own2, fun j o q => ?_, fun p hp => own2 p (s.sub.owns (owns_wipe hs2 hp)), s.go.keep _ _ hD3 nD, ?_, s.rel.wipe hl2 hs2, (ra.mono g3.mono).mono s.go.mono⟩
          · have nj : j ∉ vs := fun z => nomatch wipeS_in z q
            rw [wipeS_out nj] at q
            obtain ⟨o1, h1⟩ := s.sub j o q
            obtain ⟨o2, h2⟩ := sb4 j o1 h1
            exact sb2 j o2 h2
          · cases z : F' D with
            | none => rfl
            | some u =>
              rcases s.go.new D u z with z2 | z2 | z2
              · rw [hF3] at z2; cases z2
              · rw [hD3] at z2; cases z2
              · exact absurd z2 nD
        refine ⟨F3, e2, r4, ?_⟩
        rw [ec]
        intro b' F4 H4 s4 hb
        have hb' : b = b' := hb
        subst hb'
        cases b with
        | false =>
          rw [if_neg Bool.false_ne_true]
          rw [if_neg Bool.false_ne_true] at q5
          obtain ⟨a1, a2, a3, a4, a5, a6, a7⟩ := after s4
          exact ⟨F4, e3, acc, av, by omega, rfl, a6, a1, a2, a3, a4, a5, a7, q5⟩
        | true =>
          rw [if_pos rfl]
          rw [if_pos rfl] at q5
          obtain ⟨y', e4, ey, q6⟩ := nox_ok q5
          refine ⟨F4, e3, s4.rel, ?_⟩
          rw [ey]
          intro yv F5 H5 s5 hyv
          have hyv' : Rep X.K F5 y' yv := hyv
          obtain ⟨a1, a2, a3, a4, a5, a6, a7⟩ := after (s4.trans s5)
          have q7 : Rd X.K xr W σ (vR X.K σ) F1 H1 env1 ((if acc.length < lim then lcLoop (turnOf Φ t cs el) (ds.drop (i + 1)) e4 (acc ++ [y']) else none).bind fun ys e2 => some (.ok (.o (.lst ys)) (backS vs env1 e2))) Q := q6
          by_cases hz : acc.length < lim
          · rw [if_pos hz] at q7
            have nD5 : ¬ Owns (wipeS vs e4) (L2.wipe σ vs) D := fun z => noD _ (a3 _ z) rfl
            refine ⟨av, a4, by rw [a7.len, ← lim_eq]; exact hz, F5, e4, acc ++ [y'], av ++ [yv], by omega, rfl, a6.off a5 nD5, a1.off hD, a2, a3, upd_same, a5, a7.append (.cons hyv' .nil), q7⟩
          · rw [if_neg hz] at q7
            exact q7.elim
      · left
        have ei : i = ds.length := by omega
        subst ei
        refine ⟨wk.stop F2 H2 g2.mono r2.le, ?_⟩
        rw [List.drop_length] at q2
        have q3 : Rd X.K xr W σ (vR X.K σ) F1 H1 env1 (some (.ok (.o (.lst acc)) (backS vs env1 e))) Q := q2
        have subB : Sub (backS vs env1 e) env1 := fun j o h => by
          by_cases hj : j ∈ vs
          · exact absurd (backS_in hj h).symm (hid_no hid hj)
          · rw [backS_out hj] at h
            obtain ⟨o', h'⟩ := sb2 j o (by rw [wipeS_out hj]; exact h)
            rw [wipeS_out hj] at h'
            exact ⟨o', h'⟩
        have rB := Rel.back r1 g2.mono hid r2 hwl hws
        refine q3 (.ref D) F2 H2 ⟨rB, g2, subB⟩ ⟨⟨D, rfl, hF2, ⟨av, hD2, ra⟩, fun z => noD _ (subB.owns z) rfl⟩, fun p e => ?_⟩
        cases e
        exact .inl hD
  · rw [if_neg hid] at q1
    exact q1.elim
end
end Py

/-! Snd5: calls of the program's defs. -/
namespace Py
open PySem PySem.Spec PyProof.Rows L2

def AvOk (K : PySem.W.Frag) (F H : Hp) (σ : L2.St) (env : Py.Env) : AV → V → Prop
  | .d d, v => Rep K F d v
  | .r i, v => σ[i]? = some (some v)
  | .o od, v => RVok K F H σ env (.o od) v
def AvAll (K : PySem.W.Frag) (F H : Hp) (σ : L2.St) (env : Py.Env) : List AV → List V → Prop
  | [], vs => vs = []
  | p :: ps, vs => ∃ v r, vs = v :: r ∧ AvOk K F H σ env p v ∧ AvAll K F H σ env ps r
/-- the new objects among arguments -/
def newAddrs : List AV → List V → List Addr
  | .o _ :: ps, .ref p :: vs => p :: newAddrs ps vs
  | _ :: ps, _ :: vs => newAddrs ps vs
  | _, _ => []
section
variable {K : PySem.W.Frag} {σ : L2.St} {F H F1 H1 F2 H2 : Hp} {env env1 env2 : Py.Env}
theorem AvOk.stp {p : AV} {v : V} (h : AvOk K F1 H1 σ env1 p v) (s : Stp K σ F1 H1 env1 F2 H2 env2) : AvOk K F2 H2 σ env2 p v := by
  cases p with
  | d d => exact Rep.mono s.go.mono h
  | r i => exact h
  | o od => exact RVok.go (H0 := H1) (rv := .o od) h s.rel s.go s.sub
theorem AvAll.stp : ∀ {ps : List AV} {vs : List V}, AvAll K F1 H1 σ env1 ps vs → Stp K σ F1 H1 env1 F2 H2 env2 → AvAll K F2 H2 σ env2 ps vs
  | [], _, h, _ => h
  | p :: ps, _, ⟨v, r, e, h1, h2⟩, s => ⟨v, r, e, h1.stp s, AvAll.stp h2 s⟩
theorem new_mem : ∀ {ps : List AV} {vs : List V}, AvAll K F H σ env ps vs → ∀ p ∈ newAddrs ps vs, ¬ Owns env σ p ∧ ∃ o, H p = some o
  | [], _, _, p, hp => by simp [newAddrs] at hp
  | a :: ps, _, ⟨v, r, e, h1, h2⟩, p, hp => by
    subst e
    cases a with
    | d d => exact new_mem h2 p hp
    | r i => exact new_mem h2 p hp
    | o od =>
      obtain ⟨q, rfl, _, h4, h5⟩ := h1
      rcases List.mem_cons.mp hp with rfl | hp
      · exact ⟨h5, h4.there⟩
      · exact new_mem h2 p hp
end
def vA (K : PySem.W.Frag) (σ : L2.St) : VRel K σ (List AV) (List V) where
  r := fun H env F' H' env' ps vs => AvAll K F' H' σ env' ps vs ∧ (newAddrs ps vs).Nodup ∧ ∀ p ∈ newAddrs ps vs, H p = none ∨ Owns env σ p
  mono := by
    intro F H env F1 H1 env1 F2 H2 env2 a b s h
    refine ⟨h.1, h.2.1, fun p hp => ?_⟩
    rcases h.2.2 p hp with q | q
    · cases z : H p with
      | none => exact .inl rfl
      | some u =>
        obtain ⟨u', e'⟩ := s.go.dom p u z
        rw [q] at e'; cases e'
    · exact .inr (s.sub.owns q)
def v1 (K : PySem.W.Frag) (σ : L2.St) : VRel K σ AV V where
  r := fun H env F' H' env' p v => AvOk K F' H' σ env' p v ∧ ∀ q ∈ newAddrs [p] [v], H q = none ∨ Owns env σ q
  mono := by
    intro F H env F1 H1 env1 F2 H2 env2 a b s h
    refine ⟨h.1, fun p hp => ?_⟩
    rcases h.2 p hp with q | q
    · cases z : H p with
      | none => exact .inl rfl
      | some u =>
        obtain ⟨u', e'⟩ := s.go.dom p u z
        rw [q] at e'; cases e'
    · exact .inr (s.sub.owns q)
/-- bind, what comes judged from the start -/
theorem Rd.bind0 {K : PySem.W.Frag} {xr : ExR} {W : WX} {σ : L2.St} {F H : Hp} {env : Py.Env} {α β γ δ : Type} {VA : VRel K σ α β} {VC : VRel K σ γ δ} {m : R α} {f : α → Py.Env → R γ} {Q : δ → Hp → Prop} (h : Rd K xr W σ VC F H env (m.bind f) Q) :
    Rd K xr W σ VA F H env m fun b H1 => ∃ a F1 env1, m = some (.ok a env1) ∧ Stp K σ F H env F1 H1 env1 ∧ VA.r H env F1 H1 env1 a b ∧ Rd K xr W σ VC F H env (f a env1) Q := by
  cases m with
  | none => exact h
  | some o =>
    cases o with
    | ex x e2 => exact h
    | ok a e2 => exact fun b F' H' s hv => ⟨a, F', e2, rfl, s, hv, h⟩
def tA1 (K : PySem.W.Frag) (xr : ExR) (W : WX) (Φ : Sig) (a : A) : TE := fun σ H Q => ∃ F env, Rel K F H σ env ∧ Rd K xr W σ (v1 K σ) F H env (evA thePar Φ a env) Q
def tAs (K : PySem.W.Frag) (xr : ExR) (W : WX) (Φ : Sig) (as : List A) : TA := fun σ H Q => ∃ F env, Rel K F H σ env ∧ Rd K xr W σ (vA K σ) F H env (evAs thePar Φ as env) Q
section
variable {X : Cx} {xr : ExR} {W : WX} {Φ : Sig} {pos p0 : Pos} {k : Nat}
theorem a_v {c : E} {e : PySem.Expr} (h : PE X e (tD X.K xr W Φ c)) : PE X e (tA1 X.K xr W Φ (.v c)) := pe_imp h fun σ H Q ⟨F, env, r, q⟩ => by
  have q' : Rd X.K xr W σ (v1 X.K σ) F H env ((fzR (ev Φ c env)).bind fun d e1 => some (.ok (.d d) e1)) Q := q
  exact ⟨F, env, r, (Rd.bind (VA := vD X.K σ) q').imp fun v H1 ⟨d, F1, env1, _, s1, h1, q1⟩ => q1 v F1 H1 (Stp.refl s1.rel) ⟨h1, fun p hp => by simp [newAddrs] at hp⟩⟩
theorem a_r {i : Nat} {x : Str} (hN : X.N[i]? = some x) (hv : Vis X.env.scope x) (hd : (x == ("__debug__" : Str)) = false) (hcd : (x == ("__classdict__" : Str)) = false) : PE X (.Name x pos) (tA1 X.K xr W Φ (.r i)) :=
  pe_imp (pe_var hN hv hd hcd) fun σ H Q ⟨F, env, r, q⟩ => by
    have q' : Rd X.K xr W σ (v1 X.K σ) F H env (match env[i]? with
      | some (.own _) => some (.ok (.r i) env)
      | _ => none) Q := q
    split at q'
    · rename_i o hi
      obtain ⟨p, e, _⟩ := r.slot i _ hi
      exact ⟨_, e, q' _ F H (Stp.refl r) ⟨e, fun p hp => by simp [newAddrs] at hp⟩⟩
    · exact q'.elim
theorem a_o {c : E} {e : PySem.Expr} (h : PE X e (tR X.K xr W Φ c)) : PE X e (tA1 X.K xr W Φ (.o c)) := pe_imp h fun σ H Q ⟨F, env, r, q⟩ => by
  have q' : Rd X.K xr W σ (v1 X.K σ) F H env ((ev Φ c env).bind fun r e1 => match r with
    | .o od => some (.ok (.o od) e1)
    | .v _ => none) Q := q
  refine ⟨F, env, r, (Rd.bind0 (VA := vR X.K σ) q').imp fun v H1 ⟨rv, F1, env1, _, s1, h1, q1⟩ => ?_⟩
  cases rv with
  | v d => exact q1.elim
  | o od =>
    refine q1 v F1 H1 s1 ⟨h1.1, fun p hp => ?_⟩
    obtain ⟨p', e', _⟩ := h1.1
    subst e'
    have : p = p' := by simpa [newAddrs] using hp
    subst this
    exact h1.2 p rfl
theorem as_nil : PA X [] (tAs X.K xr W Φ []) := ⟨fun pos pins s σ H Q I ⟨F, env, r, q⟩ => pa_nil.run pos pins s σ H Q I (q [] F H (Stp.refl r) ⟨rfl, List.nodup_nil, fun p hp => by simp [newAddrs] at hp⟩)⟩
theorem newAddrs_cons (a : AV) (ps : List AV) (v : V) (vs : List V) : newAddrs (a :: ps) (v :: vs) = newAddrs [a] [v] ++ newAddrs ps vs := by
  cases a with
  | o od => cases v <;> rfl
  | d d => rfl
  | r i => rfl
theorem as_cons {a : A} {as : List A} {e : PySem.Expr} {es : List PySem.Expr} (h : PE X e (tA1 X.K xr W Φ a)) (t : PA X es (tAs X.K xr W Φ as)) (hs : nst e = true) : PA X (e :: es) (tAs X.K xr W Φ (a :: as)) :=
  ⟨fun pos pins s σ H Q I ⟨F, env, r, q⟩ => (pa_cons h t (star_cons hs)).run pos pins s σ H Q I (by
    have q' : Rd X.K xr W σ (vA X.K σ) F H env ((evA thePar Φ a env).bind fun p e1 => (evAs thePar Φ as e1).bind fun ps e2 => some (.ok (p :: ps) e2)) Q := q
    refine ⟨F, env, r, (Rd.bind0 (VA := v1 X.K σ) q').imp fun x H1 ⟨p, F1, env1, _, s1, h1, q1⟩ => ?_⟩
    have q1' : Rd X.K xr W σ (vA X.K σ) F H env ((evAs thePar Φ as env1).bind fun ps e2 => some (.ok (p :: ps) e2)) Q := q1
    refine ⟨F1, env1, s1.rel, ?_⟩
    cases em : evAs thePar Φ as env1 with
    | none => rw [em] at q1'; exact q1'.elim
    | some o =>
      rw [em] at q1'
      cases o with
      | ex x' e2 => exact fun cls d F' H' s2 hx => q1' cls d F' H' (s1.trans s2) hx
      | ok ps e2 =>
        intro xs F2 H2 s2 h2
        refine q1' (x :: xs) F2 H2 (s1.trans s2) ⟨⟨x, xs, rfl, h1.1.stp s2, h2.1⟩, ?_, fun q hq => ?_⟩
        · rw [newAddrs_cons]
          refine List.nodup_append.mpr ⟨?_, h2.2.1, fun a ha b hb e => ?_⟩
          · cases p with
            | o od => cases x <;> simp [newAddrs]
            | _ => simp [newAddrs]
          · subst e
            have n1 : ¬ Owns env1 σ a ∧ ∃ o, H1 a = some o := new_mem (ps := [p]) (vs := [x]) ⟨x, [], rfl, h1.1, rfl⟩ a ha
            obtain ⟨no, o, ho⟩ := n1
            rcases h2.2.2 a hb with z | z
            · rw [ho] at z; cases z
            · exact no z
        · rw [newAddrs_cons] at hq
          rcases List.mem_append.mp hq with hq | hq
          · exact h1.2 q hq
          · rcases h2.2.2 q hq with z | z
            · cases y : H q with
              | none => exact .inl rfl
              | some u =>
                obtain ⟨u', e'⟩ := s1.go.dom q u y
                rw [z] at e'; cases e'
            · exact .inr (s1.sub.owns z))⟩

/-! the callee's promise, asked -/
theorem args_all {K : PySem.W.Frag} {F H : Hp} {σ : L2.St} {env : Py.Env} (r : Rel K F H σ env) : ∀ {ps : List AV} {vs : List V} {args : List Arg}, AvAll K F H σ env ps vs → allSome (ps.map (toArg env)) = some args →
    ArgAll K F H args vs ∧ ∀ p ∈ refAddrs args vs, (∃ i o, i ∈ refsOf ps ∧ env[i]? = some (.own o) ∧ σ[i]? = some (some (V.ref p))) ∨ p ∈ newAddrs ps vs
  | [], _, args, h, e => by
    cases e
    refine ⟨h, fun p hp => ?_⟩
    have h' : _ = _ := h
    subst h'
    simp [refAddrs] at hp
  | a :: ps, _, args, ⟨v, vr, ev, h1, h2⟩, e => by
    subst ev
    rw [List.map_cons] at e
    unfold allSome at e
    cases ea : toArg env a with
    | none => rw [ea] at e; cases e
    | some g =>
      rw [ea] at e
      dsimp only at e
      cases et : allSome (ps.map (toArg env)) with
      | none => rw [et] at e; cases e
      | some gs =>
        rw [et] at e
        cases e
        obtain ⟨t1, t2⟩ := args_all r h2 et
        cases a with
        | d d =>
          unfold toArg at ea
          cases ea
          refine ⟨⟨v, vr, rfl, h1, t1⟩, fun p hp => ?_⟩
          have hp' : p ∈ refAddrs gs vr := by cases v <;> exact hp
          exact t2 p hp'
        | r i =>
          unfold toArg at ea
          dsimp only at ea
          cases q : env[i]? with
          | none => rw [q] at ea; cases ea
          | some sl =>
            rw [q] at ea
            cases sl with
            | own o =>
              cases ea
              obtain ⟨p, ep, h3, h4⟩ := r.slot i _ q
              have h1' : σ[i]? = some (some v) := h1
              rw [h1'] at ep
              cases ep
              refine ⟨⟨.ref p, vr, rfl, ⟨p, rfl, h3, h4⟩, t1⟩, fun p' hp => ?_⟩
              rcases List.mem_cons.mp hp with z | z
              · subst z
                exact .inl ⟨i, o, List.mem_cons_self, q, h1'⟩
              · rcases t2 p' z with ⟨j, oj, a1, a2, a3⟩ | z
                · exact .inl ⟨j, oj, List.mem_cons_of_mem _ a1, a2, a3⟩
                · exact .inr z
            | _ => cases ea
        | o od =>
          unfold toArg at ea
          cases ea
          obtain ⟨p, rfl, h3, h4, h5⟩ := h1
          refine ⟨⟨.ref p, vr, rfl, ⟨p, rfl, h3, h4⟩, t1⟩, fun p' hp => ?_⟩
          rcases List.mem_cons.mp hp with z | z
          · subst z
            exact .inr List.mem_cons_self
          · rcases t2 p' z with z | z
            · exact .inl z
            · exact .inr (List.mem_cons_of_mem _ z)
theorem args_nd {K : PySem.W.Frag} {F H : Hp} {σ : L2.St} {env : Py.Env} (r : Rel K F H σ env) : ∀ {ps : List AV} {vs : List V} {args : List Arg}, AvAll K F H σ env ps vs → allSome (ps.map (toArg env)) = some args → (refsOf ps).Nodup → (newAddrs ps vs).Nodup → (refAddrs args vs).Nodup
  | [], _, args, h, e, _, _ => by
    cases e
    have h' : _ = _ := h
    subst h'
    exact List.nodup_nil
  | a :: ps, _, args, ⟨v, vr, ev, h1, h2⟩, e, n1, n2 => by
    subst ev
    rw [List.map_cons] at e
    unfold allSome at e
    cases ea : toArg env a with
    | none => rw [ea] at e; cases e
    | some g =>
      rw [ea] at e
      dsimp only at e
      cases et : allSome (ps.map (toArg env)) with
      | none => rw [et] at e; cases e
      | some gs =>
        rw [et] at e
        cases e
        obtain ⟨_, t2⟩ := args_all r h2 et
        cases a with
        | d d =>
          unfold toArg at ea
          cases ea
          have : refAddrs (Arg.v d :: gs) (v :: vr) = refAddrs gs vr := by cases v <;> rfl
          rw [this]
          exact args_nd r h2 et n1 n2
        | r i =>
          unfold toArg at ea
          dsimp only at ea
          cases q : env[i]? with
          | none => rw [q] at ea; cases ea
          | some sl =>
            rw [q] at ea
            cases sl with
            | own o =>
              cases ea
              obtain ⟨p, ep, h3, h4⟩ := r.slot i _ q
              have h1' : σ[i]? = some (some v) := h1
              rw [h1'] at ep
              cases ep
              have n1' : (i :: refsOf ps).Nodup := n1
              rw [List.nodup_cons] at n1'
              refine List.nodup_cons.mpr ⟨fun z => ?_, args_nd r h2 et n1'.2 n2⟩
              rcases t2 p z with ⟨j, oj, a1, a2, a3⟩ | z
              · have : i = j := r.apart i j o oj p q a2 h1' a3
                rw [this] at n1'
                exact n1'.1 a1
              · exact (new_mem h2 p z).1 ⟨i, o, q, h1'⟩
            | _ => cases ea
        | o od =>
          unfold toArg at ea
          cases ea
          obtain ⟨p, rfl, h3, h4, h5⟩ := h1
          have n2' : (p :: newAddrs ps vr).Nodup := n2
          rw [List.nodup_cons] at n2'
          refine List.nodup_cons.mpr ⟨fun z => ?_, args_nd r h2 et n1 n2'.2⟩
          rcases t2 p z with ⟨j, oj, a1, a2, a3⟩ | z
          · exact h5 ⟨j, oj, a2, a3⟩
          · exact n2'.1 z
/-- what stands in the slots when the changed objects are put back -/
theorem put_get {K : PySem.W.Frag} {F H F' H' : Hp} {σ : L2.St} {env1 : Py.Env} (r : Rel K F H σ env1) : ∀ {ps : List AV} {vs : List V} {args : List Arg} {outs : List OD} {env env' : Py.Env}, AvAll K F H σ env1 ps vs → allSome (ps.map (toArg env1)) = some args → OutAll K F' H' (refAddrs args vs) outs → putBack ps outs env = some env' →
    env'.length = env.length ∧ ∀ j s, env'[j]? = some s → (env[j]? = some s ∧ j ∉ refsOf ps) ∨ ∃ o o1 p, s = .own o ∧ env1[j]? = some (.own o1) ∧ σ[j]? = some (some (V.ref p)) ∧ F' p = none ∧ OwnOk K F' H' p o
  | [], _, args, outs, env, env', h, e, ho, hp => by
    cases e
    have h' : _ = _ := h
    subst h'
    have ho' : outs = [] := ho
    subst ho'
    cases hp
    exact ⟨rfl, fun j s q => .inl ⟨q, by simp [refsOf]⟩⟩
  | a :: ps, _, args, outs, env, env', ⟨v, vr, ev, h1, h2⟩, e, ho, hp => by
    subst ev
    rw [List.map_cons] at e
    unfold allSome at e
    cases ea : toArg env1 a with
    | none => rw [ea] at e; cases e
    | some g =>
      rw [ea] at e
      dsimp only at e
      cases et : allSome (ps.map (toArg env1)) with
      | none => rw [et] at e; cases e
      | some gs =>
        rw [et] at e
        cases e
        cases a with
        | d d =>
          unfold toArg at ea
          cases ea
          have eq : refAddrs (Arg.v d :: gs) (v :: vr) = refAddrs gs vr := by cases v <;> rfl
          rw [eq] at ho
          have hp' : putBack ps outs env = some env' := hp
          have z := put_get (ps := ps) r h2 et ho hp'
          exact z
        | r i =>
          unfold toArg at ea
          dsimp only at ea
          cases q : env1[i]? with
          | none => rw [q] at ea; cases ea
          | some sl =>
            rw [q] at ea
            cases sl with
            | own o =>
              cases ea
              obtain ⟨p, ep, h3, h4⟩ := r.slot i _ q
              have h1' : σ[i]? = some (some v) := h1
              rw [h1'] at ep
              cases ep
              obtain ⟨o', os, rfl, f1, f2, f3⟩ := ho
              have hp' : putBack ps os (env.set i (.own o')) = some env' := hp
              obtain ⟨l, t⟩ := put_get r h2 et f3 hp'
              refine ⟨by rw [l, List.length_set], fun j s hj => ?_⟩
              rcases t j s hj with ⟨hj2, nj⟩ | z
              · by_cases eij : i = j
                · subst eij
                  right
                  by_cases hl : i < env.length
                  · rw [List.getElem?_set_self hl] at hj2
                    cases hj2
                    exact ⟨o', o, p, rfl, q, h1', f1, f2⟩
                  · rw [List.getElem?_eq_none (by simpa using hl)] at hj2; cases hj2
                · rw [List.getElem?_set_ne eij] at hj2
                  exact .inl ⟨hj2, fun z => (List.mem_cons.mp z).elim (fun z => eij z.symm) nj⟩
              · exact .inr z
            | _ => cases ea
        | o od =>
          unfold toArg at ea
          cases ea
          obtain ⟨p, rfl, _⟩ := h1
          obtain ⟨o', os, rfl, f1, f2, f3⟩ := ho
          have hp' : putBack ps os env = some env' := hp
          have z := put_get (ps := ps) r h2 et f3 hp'
          exact z
theorem sp_of {K : PySem.W.Frag} {σ : L2.St} {F H F1 H1 : Hp} {env env1 : Py.Env} {f : Nat} {ps : List AV} {vs : List V} {Q : VK} (s1 : Stp K σ F H env F1 H1 env1) (h : (vA K σ).r H env F1 H1 env1 ps vs) (q : Rd K xr W σ (vR K σ) F H env (callIt Φ f ps env1) Q) :
    spOf K xr Φ f vs H1 Q fun cls d H' => W cls d σ H' := by
  obtain ⟨ha, hn, ho⟩ := h
  unfold callIt at q
  cases ea : allSome (ps.map (toArg env1)) with
  | none => rw [ea] at q; exact q.elim
  | some args =>
    rw [ea] at q
    by_cases hnd : (refsOf ps).Nodup
    · simp only [if_pos hnd] at q
      obtain ⟨aa, am⟩ := args_all s1.rel ha ea
      have nd := args_nd s1.rel ha ea hnd hn
      have refsOwn : ∀ p ∈ refAddrs args vs, H p = none ∨ Owns env σ p := fun p hp => by
        rcases am p hp with ⟨i, o, _, a2, a3⟩ | z
        · exact .inr (s1.sub.owns ⟨i, o, a2, a3⟩)
        · exact ho p z
      -- the step as a whole
      have step : ∀ {outs : List OD} {env' : Py.Env} {F' H' : Hp}, Ret K F1 H1 (refAddrs args vs) outs F' H' → putBack ps outs env1 = some env' → Stp K σ F H env F' H' env' := fun {outs env' F' H'} rt hp => by
        obtain ⟨l, t⟩ := put_get s1.rel ha ea rt.out hp
        have sub1 : Sub env' env1 := fun j o hj => by
          rcases t j _ hj with ⟨z, _⟩ | ⟨_, o1, _, _, z, _⟩
          · exact ⟨o, z⟩
          · exact ⟨o1, z⟩
        refine ⟨⟨rt.le, by rw [l]; exact s1.rel.len, fun j s hj => ?_, fun i j oi oj p h1 h2 h3 h4 => ?_⟩, s1.go.transW rt.go refsOwn, sub1.trans s1.sub⟩
        · rcases t j s hj with ⟨z, nj⟩ | ⟨o, o1, p, rfl, _, z2, z3, z4⟩
          · have so := s1.rel.slot j s z
            cases s with
            | un => exact True.intro
            | fz d => obtain ⟨v, e, h⟩ := so; exact ⟨v, e, h.mono rt.go.mono⟩
            | own o =>
              obtain ⟨p, e, h3, h4⟩ := so
              have np : p ∉ refAddrs args vs := fun hp => by
                rcases am p hp with ⟨i, oi, a1, a2, a3⟩ | w
                · have : i = j := s1.rel.apart i j oi o p a2 z a3 e
                  subst this
                  exact nj a1
                · exact (new_mem ha p w).1 ⟨j, o, z, e⟩
              refine ⟨p, e, ?_, h4.go rt.go.mono fun u hu => rt.go.keep p u hu np⟩
              cases y : F' p with
              | none => rfl
              | some u =>
                rcases rt.go.new p u y with w | w | w
                · rw [h3] at w; cases w
                · obtain ⟨u2, hu2⟩ := h4.there
                  rw [w] at hu2; cases hu2
                · exact absurd w np
            | exc x => exact so
          · exact ⟨p, z2, z3, z4⟩
        · obtain ⟨oi', h1'⟩ := sub1 i oi h1
          obtain ⟨oj', h2'⟩ := sub1 j oj h2
          exact s1.rel.apart i j oi' oj' p h1' h2' h3 h4
      refine ⟨F1, args, ⟨s1.rel.le, aa, nd⟩, ?_⟩
      cases ef : Φ f args with
      | none => rw [ef] at q; exact q.elim
      | some cr =>
        rw [ef] at q
        cases cr with
        | ret rv outs =>
          simp only at q ⊢
          cases ep : putBack ps outs env1 with
          | none => rw [ep] at q; exact q.elim
          | some env' =>
            rw [ep] at q
            intro v F' H' rt rvv
            have st := step rt ep
            refine q v F' H' st ?_
            cases rv with
            | v d => exact ⟨rvv, True.intro⟩
            | o od =>
              obtain ⟨p, rfl, h3, h4, h5, h6⟩ := rvv
              have hnone : H p = none := by
                cases y : H p with
                | none => rfl
                | some u =>
                  obtain ⟨u', e'⟩ := s1.go.dom p u y
                  rw [h5] at e'; cases e'
              refine ⟨⟨p, rfl, h3, h4, fun z => ?_⟩, fun p' e => ?_⟩
              · obtain ⟨_, u, hu⟩ := s1.rel.owned (by
                  obtain ⟨l, t⟩ := put_get s1.rel ha ea rt.out ep
                  obtain ⟨j, o, z1, z2⟩ := z
                  rcases t j _ z1 with ⟨y, _⟩ | ⟨_, o1, _, _, y, _⟩
                  · exact ⟨j, o, y, z2⟩
                  · exact ⟨j, o1, y, z2⟩)
                rw [h5] at hu; cases hu
              · cases e
                exact .inl hnone
        | exc x outs =>
          simp only at q ⊢
          cases ep : putBack ps outs env1 with
          | none => rw [ep] at q; exact q.elim
          | some env' =>
            rw [ep] at q
            intro cls d F' H' rt hx
            exact q cls d F' H' (step rt ep) hx
    · simp only [if_neg hnd] at q
      exact q.elim
theorem bind_pos {fd : FuncData} {ps : List Str} {K : PySem.W.Frag} (hb : L2.Binds K fd ps []) (s : Shared) (us : List Value) (hin : K.In s.heap) (hl : us.length = ps.length) : BindsTo s fd ⟨us, []⟩ (ps.zip us) := by
  have := hb s us hin (by rw [List.append_nil]; exact hl)
  rw [List.append_nil] at this
  exact this
theorem s_call {f : Nat} {fa : Addr} {fd : FuncData} {ps : List Str} {nm : Str} {as : List A} {e : PySem.Expr} {es : List PySem.Expr} (x : XOk k X) (F : FnG X.prog X.w X.K X.mg X.base k fa fd ps (spOf X.K xr Φ f)) (tk : Takes X W) (hg : Gl X nm) (hm : X.mg nm = some (.ref fa)) (hk : PySem.W.keepIn X.K (.ref fa) = true) (hb : L2.Binds X.K fd ps []) (hdb : (nm == ("__debug__" : Str)) = false)
    (ha : PA X (e :: es) (tAs X.K xr W Φ as)) (hs : (e :: es).all nst = true) : PE X (.Call (.Name nm p0) (e :: es) [] pos) (tR X.K xr W Φ (.call f as [])) := by
  refine ⟨fun pins s σ H Q I ⟨E0, env, r, q⟩ => ?_⟩
  have q' : Rd X.K xr W σ (vR X.K σ) E0 H env ((evAs thePar Φ as env).bind fun ps e1 => callIt Φ f ps e1) Q := q
  have pa : tAs X.K xr W Φ as σ H fun vs H1 => spOf X.K xr Φ f vs H1 Q fun cls d H' => W cls d σ H' := ⟨E0, env, r, (Rd.bind0 (VA := vA X.K σ) q').imp fun vs H1 ⟨avs, F1, env1, _, s1, h1, q1⟩ => sp_of s1 h1 q1⟩
  refine wpAny_Call_Name_kw (ld_glob I hg hm ?_ hdb)
  rw [List.all_cons, Bool.and_eq_true] at hs
  refine PySem.W.callWith_K (h₀ := X.base) I.ok.mod.kin hk (thn (ha.run pos pins s σ H _ I pa) fun us s1 ⟨vs, H1, I1, r1, q1⟩ => ⟨I1.kIn, ?_⟩) (star_cons hs.1) (star_any hs.2)
  exact F.call (us := us) (kw := []) x.room x.guards tk I1 (bind_pos hb s1 us I1.kIn) r1 q1
theorem s_call0 {f : Nat} {fa : Addr} {fd : FuncData} {ps : List Str} {nm : Str} (x : XOk k X) (F : FnG X.prog X.w X.K X.mg X.base k fa fd ps (spOf X.K xr Φ f)) (tk : Takes X W) (hg : Gl X nm) (hm : X.mg nm = some (.ref fa)) (hk : PySem.W.keepIn X.K (.ref fa) = true) (hb : L2.Binds X.K fd ps []) (hdb : (nm == ("__debug__" : Str)) = false) :
    PE X (.Call (.Name nm p0) [] [] pos) (tR X.K xr W Φ (.call f [] [])) := by
  refine ⟨fun pins s σ H Q I ⟨E0, env, r, q⟩ => ?_⟩
  have q' : Rd X.K xr W σ (vR X.K σ) E0 H env (callIt Φ f [] env) Q := q
  refine wpAny_Call_Name_kw (ld_glob I hg hm ?_ hdb)
  exact PySem.W.callWith_K0 I.kIn hk (F.call (us := []) (kw := []) (zs := []) (vs := []) x.room x.guards tk I (bind_pos hb s [] I.kIn) .nil (sp_of (ps := []) (Stp.refl r) ⟨rfl, List.nodup_nil, fun p hp => by simp [newAddrs] at hp⟩ q'))

/-! calls by keywords -/
theorem evAs_v : ∀ (cs : List E) (env : Py.Env), evAs thePar Φ (cs.map A.v) env = (evEs thePar Φ cs env).bind fun ds e => some (.ok (ds.map AV.d) e)
  | [], env => rfl
  | c :: cs, env => by
    have h1 : evAs thePar Φ ((c :: cs).map A.v) env = ((fzR (ev Φ c env)).bind fun d e1 => some (.ok (AV.d d) e1)).bind fun p e1 => (evAs thePar Φ (cs.map A.v) e1).bind fun ps e2 => some (.ok (p :: ps) e2) := rfl
    have h2 : evEs thePar Φ (c :: cs) env = (fzR (ev Φ c env)).bind fun d e1 => (evEs thePar Φ cs e1).bind fun ds e2 => some (.ok (d :: ds) e2) := rfl
    rw [h1, h2, bind_bind, bind_bind]
    congr 1
    funext d e1
    show ((evAs thePar Φ (cs.map A.v) e1).bind fun ps e2 => some (.ok (AV.d d :: ps) e2)) = _
    rw [evAs_v cs e1, bind_bind, bind_bind]
    rfl
theorem evEs_app : ∀ (cs cs2 : List E) (env : Py.Env), evEs thePar Φ (cs ++ cs2) env = (evEs thePar Φ cs env).bind fun d1 e1 => (evEs thePar Φ cs2 e1).bind fun d2 e2 => some (.ok (d1 ++ d2) e2)
  | [], cs2, env => by
    show evEs thePar Φ cs2 env = (evEs thePar Φ cs2 env).bind fun d2 e2 => some (.ok ([] ++ d2) e2)
    cases evEs thePar Φ cs2 env with
    | none => rfl
    | some o => cases o <;> rfl
  | c :: cs, cs2, env => by
    have h1 : evEs thePar Φ (c :: cs ++ cs2) env = (fzR (ev Φ c env)).bind fun d e1 => (evEs thePar Φ (cs ++ cs2) e1).bind fun ds e2 => some (.ok (d :: ds) e2) := rfl
    have h2 : evEs thePar Φ (c :: cs) env = (fzR (ev Φ c env)).bind fun d e1 => (evEs thePar Φ cs e1).bind fun ds e2 => some (.ok (d :: ds) e2) := rfl
    rw [h1, h2, bind_bind]
    congr 1
    funext d e1
    rw [evEs_app cs cs2 e1, bind_bind, bind_bind]
    congr 1
    funext d1 e2
    show _ = (evEs thePar Φ cs2 e2).bind fun d2 e3 => some (.ok ((d :: d1) ++ d2) e3)
    rw [bind_bind]
    rfl
theorem av_ds {K : PySem.W.Frag} {F H : Hp} {σ : L2.St} {env : Py.Env} : ∀ {ds : List D} {vs : List V}, RepAll K F ds vs → AvAll K F H σ env (ds.map AV.d) vs ∧ newAddrs (ds.map AV.d) vs = []
  | [], _, h => ⟨h.inv0, by simp [newAddrs]⟩
  | d :: ds, _, h => by
    obtain ⟨v, r, rfl, h1, h2⟩ := h.inv
    obtain ⟨a, b⟩ := av_ds (H := H) (σ := σ) (env := env) h2
    exact ⟨⟨v, r, rfl, h1, a⟩, by cases v <;> exact b⟩
theorem perm_ds {K : PySem.W.Frag} {F : Hp} {ds : List D} {vs : List V} (h : RepAll K F ds vs) : ∀ {pm : List Nat} {qs : List AV}, allSome (pm.map fun j => (ds.map AV.d)[j]?) = some qs → ∃ ds', qs = ds'.map AV.d ∧ RepAll K F ds' (pm.map fun j => vs.getD j .non)
  | [], qs, e => by cases e; exact ⟨[], rfl, .nil⟩
  | j :: pm, qs, e => by
    rw [List.map_cons] at e
    unfold allSome at e
    rw [List.getElem?_map] at e
    cases q : ds[j]? with
    | none => rw [q] at e; cases e
    | some d =>
      rw [q] at e
      dsimp only [Option.map_some] at e
      cases et : allSome (pm.map fun j => (ds.map AV.d)[j]?) with
      | none => rw [et] at e; cases e
      | some gs =>
        rw [et] at e
        cases e
        obtain ⟨ds', rfl, t⟩ := perm_ds h et
        obtain ⟨v, hv, rv⟩ := h.get q
        refine ⟨d :: ds', rfl, ?_⟩
        rw [List.map_cons, List.getD_eq_getElem?_getD, hv]
        exact .cons rv t
theorem vals_getD : ∀ {vs : List V} {us : List Value} (j : Nat), Vals vs us → L2.RelV (vs.getD j .non) (us.getD j .none)
  | _, _, j, .nil => by simp [L2.RelV]
  | _, _, 0, .cons r t => by simpa using r
  | _, _, j + 1, .cons r t => by simpa using vals_getD j t
theorem vals_perm {vs : List V} {us : List Value} (h : Vals vs us) : ∀ pm : List Nat, Vals (pm.map fun j => vs.getD j .non) (pm.map fun j => us.getD j .none)
  | [] => .nil
  | j :: pm => .cons (vals_getD j h) (vals_perm h pm)
theorem k_nil : PK X [] (tLs X.K xr W Φ []) := ⟨fun pos pins s σ H Q I ⟨F, env, r, q⟩ => pk_nil.run pos pins s σ H Q I (q [] F H (Stp.refl r) (show RepAll X.K F [] [] from RepAll.nil))⟩
theorem k_cons {c : E} {cs : List E} {e : PySem.Expr} {kws : List Keyword} {nm : Option Str} {kp : Pos} (h : PE X e (tD X.K xr W Φ c)) (t : PK X kws (tLs X.K xr W Φ cs)) : PK X (⟨nm, e, kp⟩ :: kws) (tLs X.K xr W Φ (c :: cs)) :=
  ⟨fun pos pins s σ H Q I ⟨F, env, r, q⟩ => (pk_cons h t).run pos pins s σ H Q I (by
    have q' : Rd X.K xr W σ (vL X.K σ) F H env ((fzR (ev Φ c env)).bind fun d e1 => (evEs thePar Φ cs e1).bind fun ds e2 => some (.ok (d :: ds) e2)) Q := q
    refine ⟨F, env, r, (Rd.bind (VA := vD X.K σ) q').imp fun x H1 ⟨d, F1, env1, _, s1, h1, q1⟩ => ?_⟩
    refine ⟨F1, env1, s1.rel, (Rd.bind (VA := vL X.K σ) q1).imp fun xs H2 ⟨ds, F2, env2, _, s2, h2, q2⟩ => ?_⟩
    exact q2 (x :: xs) F2 H2 (Stp.refl s2.rel) (RepAll.cons (Rep.mono s2.go.mono h1) h2))⟩
/-- the keywords' names -/
def kwNames : List Keyword → Option (List Str)
  | [] => some []
  | ⟨some n, _, _⟩ :: r => match kwNames r with
    | some ns => some (n :: ns)
    | none => none
  | _ => none
theorem kw_ok {env : PySem.Env} {pos : Pos} : ∀ {kws : List Keyword} {kn : List Str}, kwNames kws = some kn → (backToKw pos (keywordEach kws env)).all (fun x => x.1.isSome) = true ∧ (backToKw pos (keywordEach kws env)).filterMap (fun x => x.1) = kn ∧ (backToKw pos (keywordEach kws env)).any (fun x => x.1.isNone) = false
  | [], kn, h => by cases h; exact ⟨rfl, rfl, rfl⟩
  | ⟨none, e, p⟩ :: r, kn, h => by cases h
  | ⟨some n, e, p⟩ :: r, kn, h => by
    unfold kwNames at h
    cases q : kwNames r with
    | none => rw [q] at h; cases h
    | some ns =>
      rw [q] at h
      cases h
      obtain ⟨a, b, c⟩ := kw_ok (env := env) (pos := pos) q
      refine ⟨?_, ?_, ?_⟩
      · show (true && (backToKw pos (keywordEach r env)).all (fun x => x.1.isSome)) = true
        rw [a]; rfl
      · show n :: (backToKw pos (keywordEach r env)).filterMap (fun x => x.1) = n :: ns
        rw [b]
      · show (false || (backToKw pos (keywordEach r env)).any (fun x => x.1.isNone)) = false
        rw [c]; rfl
/-- how a call by keywords binds -/
def KB (fd : FuncData) (ps : List Str) (np : Nat) (kn : List Str) (pm : List Nat) : Prop := ∀ us ws : List Value, us.length = np → ws.length = kn.length → bindArgs fd ⟨us, kn.zip ws⟩ = pure (ps.zip (pm.map fun j => (us ++ ws).getD j .none))
theorem s_callK {f : Nat} {fa : Addr} {fd : FuncData} {ps : List Str} {nm : Str} {cs cs2 : List E} {es : List PySem.Expr} {kws : List Keyword} {kn : List Str} {j : Nat} {pm : List Nat} (x : XOk k X) (F : FnG X.prog X.w X.K X.mg X.base k fa fd ps (spOf X.K xr Φ f)) (tk : Takes X W) (hg : Gl X nm) (hm : X.mg nm = some (.ref fa)) (hk : PySem.W.keepIn X.K (.ref fa) = true)
    (hb : KB fd ps cs.length kn (j :: pm)) (hdb : (nm == ("__debug__" : Str)) = false) (hkn : kwNames kws = some kn) (hl2 : cs2.length = kn.length) (ha : PA X es (tLs X.K xr W Φ cs)) (hkw : PK X kws (tLs X.K xr W Φ cs2)) (hs : es.all nst = true) (he : es = [] → cs = []) :
    PE X (.Call (.Name nm p0) es kws pos) (tR X.K xr W Φ (.call f ((cs ++ cs2).map A.v) (j :: pm))) := by
  refine ⟨fun pins s σ H Q I ⟨E0, env, r, q⟩ => ?_⟩
  have q0 : Rd X.K xr W σ (vR X.K σ) E0 H env ((evAs thePar Φ ((cs ++ cs2).map A.v) env).bind fun ps e1 => match permute ps (j :: pm) with
    | some qs => callIt Φ f qs e1
    | none => none) Q := q
  rw [evAs_v, evEs_app, bind_bind, bind_bind] at q0
  obtain ⟨k1, k2, k3⟩ := kw_ok (env := X.env) (pos := pos) hkn
  -- behind the keywords
  have last : ∀ {F1 H1 : Hp} {env1 : Py.Env} {d1 : List D} {vs : List V}, Stp X.K σ E0 H env F1 H1 env1 → RepAll X.K F1 d1 vs → d1.length = cs.length → Rd X.K xr W σ (vR X.K σ) E0 H env ((evEs thePar Φ cs2 env1).bind fun d2 e2 => (match permute ((d1 ++ d2).map AV.d) (j :: pm) with
      | some qs => callIt Φ f qs e2
      | none => none)) Q → tLs X.K xr W Φ cs2 σ H1 fun zs H2 => vs.length = cs.length ∧ zs.length = cs2.length ∧ spOf X.K xr Φ f ((j :: pm).map fun i => (vs ++ zs).getD i .non) H2 Q fun cls d H' => W cls d σ H' := fun {F1 H1 env1 d1 vs} s1 rv hd1 q1 => by
    refine ⟨F1, env1, s1.rel, ?_⟩
    cases em : evEs thePar Φ cs2 env1 with
    | none => rw [em] at q1; exact q1.elim
    | some o =>
      rw [em] at q1
      cases o with
      | ex x' e2 => exact fun cls d F' H' s2 hx => q1 cls d F' H' (s1.trans s2) hx
      | ok d2 e2 =>
        intro zs F2 H2 s2 rz
        have rz' : RepAll X.K F2 d2 zs := rz
        have q2 : Rd X.K xr W σ (vR X.K σ) E0 H env (match permute ((d1 ++ d2).map AV.d) (j :: pm) with
          | some qs => callIt Φ f qs e2
          | none => none) Q := q1
        refine ⟨by rw [rv.len, hd1], by rw [rz'.len, evEs_len _ _ _ _ em], ?_⟩
        have all := (rv.mono s2.go.mono).append rz'
        have ep : permute ((d1 ++ d2).map AV.d) (j :: pm) = if ((d1 ++ d2).map AV.d).all AV.isD then allSome ((j :: pm).map fun i => ((d1 ++ d2).map AV.d)[i]?) else none := rfl
        rw [ep] at q2
        by_cases hall : ((d1 ++ d2).map AV.d).all AV.isD = true
        · rw [if_pos hall] at q2
          cases hq : allSome ((j :: pm).map fun i => ((d1 ++ d2).map AV.d)[i]?) with
          | none => rw [hq] at q2; exact q2.elim
          | some qs =>
            rw [hq] at q2
            obtain ⟨ds', rfl, rd⟩ := perm_ds all hq
            obtain ⟨a1, a2⟩ := av_ds (H := H2) (σ := σ) (env := e2) rd
            exact sp_of (s1.trans s2) ⟨a1, by rw [a2]; exact List.nodup_nil, fun p hp => by rw [a2] at hp; cases hp⟩ q2
        · rw [if_neg hall] at q2
          exact q2.elim
  have done : ∀ {s2 : Shared} {H2 : Hp} {us ws : List Value} {vs zs : List V}, Inv X pins σ H2 s2 → Vals vs us → Vals zs ws → (vs.length = cs.length ∧ zs.length = cs2.length ∧ spOf X.K xr Φ f ((j :: pm).map fun i => (vs ++ zs).getD i .non) H2 Q fun cls d H' => W cls d σ H') → wpAny (model X.prog X.w) X.A (PySem.call (.ref fa) us (kn.zip ws)) (EP X pins σ Q) X.xe s2 := fun {s2 H2 us ws vs zs} I2 r1 r2 ⟨l1, l2, q2⟩ => by
    exact F.call (us := us) (kw := kn.zip ws) (zs := (j :: pm).map fun i => (us ++ ws).getD i .none) x.room x.guards tk I2 (fun _ => .of_eq (hb us ws (by rw [← r1.length, l1]) (by rw [← r2.length, l2, hl2]))) (vals_perm (r1.append r2) (j :: pm)) q2
  refine wpAny_Call_Name_kw (ld_glob I hg hm ?_ hdb)
  cases es with
  | nil =>
    have := he rfl
    subst this
    have q1 : Rd X.K xr W σ (vR X.K σ) E0 H env ((evEs thePar Φ cs2 env).bind fun d2 e2 => (match permute (([] ++ d2).map AV.d) (j :: pm) with
      | some qs => callIt Φ f qs e2
      | none => none)) Q := by
      have e : ∀ g : List D → Py.Env → R (List D), ((evEs thePar Φ [] env).bind g) = g [] env := fun g => rfl
      rw [show (evEs thePar Φ [] env) = some (.ok [] env) from rfl] at q0
      have q0' : Rd X.K xr W σ (vR X.K σ) E0 H env (((evEs thePar Φ cs2 env).bind fun d2 e2 => some (.ok ([] ++ d2) e2)).bind fun a e => R.bind (some (Out.ok (a.map AV.d) e)) fun ps e1 => match permute ps (j :: pm) with
        | some qs => callIt Φ f qs e1
        | none => none) Q := q0
      rw [bind_bind] at q0'
      exact q0'
    refine PySem.W.callWith_KW0 (h₀ := X.base) I.ok.mod.kin hk k1 (thn (hkw.run pos pins s σ H _ I (last (Stp.refl r) RepAll.nil rfl q1)) fun ws s2 ⟨zs, H2, I2, r2, q2⟩ => ⟨I2.kIn, ?_⟩) (by rw [k3]; rfl)
    rw [k2]
    exact done I2 .nil r2 q2
  | cons e es =>
    rw [List.all_cons, Bool.and_eq_true] at hs
    have pa : tLs X.K xr W Φ cs σ H fun vs H1 => tLs X.K xr W Φ cs2 σ H1 fun zs H2 => vs.length = cs.length ∧ zs.length = cs2.length ∧ spOf X.K xr Φ f ((j :: pm).map fun i => (vs ++ zs).getD i .non) H2 Q fun cls d H' => W cls d σ H' := by
      refine ⟨E0, env, r, (Rd.bind0 (VA := vL X.K σ) q0).imp fun vs H1 ⟨d1, F1, env1, em, s1, h1, q1⟩ => ?_⟩
      refine last s1 h1 (evEs_len _ _ _ _ em) ?_
      have q1' : Rd X.K xr W σ (vR X.K σ) E0 H env (((evEs thePar Φ cs2 env1).bind fun d2 e2 => some (.ok (d1 ++ d2) e2)).bind fun a e => R.bind (some (Out.ok (a.map AV.d) e)) fun ps e1 => match permute ps (j :: pm) with
        | some qs => callIt Φ f qs e1
        | none => none) Q := q1
      rw [bind_bind] at q1'
      exact q1'
    refine PySem.W.callWith_KW (h₀ := X.base) I.ok.mod.kin hk k1 (thn (ha.run pos pins s σ H _ I pa) fun us s1 ⟨vs, H1, I1, r1, q1⟩ => ?_) (by rw [k3, Bool.or_false]; exact star_any (by rw [List.all_cons, hs.1, hs.2]; rfl)) (star_cons hs.1)
    refine thn (hkw.run pos pins s1 σ H1 _ I1 q1) fun ws s2 ⟨zs, H2, I2, r2, q2⟩ => ⟨I2.kIn, ?_⟩
    rw [k2]
    exact done I2 r1 r2 q2
end
end Py

/-! Snd6: statements. -/
namespace Py
open PySem PySem.Spec PyProof.Rows L2

/-- from the state (F, H, σ) with its owned objects to a later one: the slots of io hold what they held -/
structure Inn (K : PySem.W.Frag) (io : List Nat) (F H : Hp) (own : Addr → Prop) (σ : L2.St) (F' H' : Hp) (σ' : L2.St) (env' : Py.Env) : Prop where
  rel : Rel K F' H' σ' env'
  go : Go F H F' H' own
  own : ∀ p, Owns env' σ' p → H p = none ∨ own p
  io : ∀ i ∈ io, σ'[i]? = σ[i]?
section
variable {K : PySem.W.Frag} {io : List Nat} {F H F1 H1 F2 H2 : Hp} {own : Addr → Prop} {σ σ1 σ2 : L2.St} {env env1 env2 : Py.Env}
theorem Inn.refl (r : Rel K F H σ env) : Inn K io F H (Owns env σ) σ F H σ env := ⟨r, Go.refl _ _ _, fun _ h => .inr h, fun _ _ => rfl⟩
theorem Inn.trans (a : Inn K io F H own σ F1 H1 σ1 env1) (b : Inn K io F1 H1 (Owns env1 σ1) σ1 F2 H2 σ2 env2) : Inn K io F H own σ F2 H2 σ2 env2 where
  rel := b.rel
  go := a.go.transW b.go a.own
  own := fun p hp => by
    rcases b.own p hp with z | z
    · cases y : H p with
      | none => exact .inl rfl
      | some u =>
        obtain ⟨u', e'⟩ := a.go.dom p u y
        rw [z] at e'; cases e'
    · exact a.own p z
  io := fun i hi => (b.io i hi).trans (a.io i hi)
theorem Inn.of (s : Stp K σ F H env F1 H1 env1) : Inn K io F H (Owns env σ) σ F1 H1 σ env1 := ⟨s.rel, s.go, fun _ h => .inr (s.sub.owns h), fun _ _ => rfl⟩
/-- a name stored -/
theorem Inn.store (r : Rel K F H σ env) {i : Nat} {d : D} {v : V} (h : Rep K F d v) (hi : i ∉ io) : Inn K io F H (Owns env σ) σ F H (σ.set i (some v)) (env.set i (.fz d)) :=
  ⟨r.store h, Go.refl _ _ _, fun _ h => .inr (owns_store h), fun j hj => List.getElem?_set_ne fun e => hi (by rw [e]; exact hj)⟩
end
/-- what is wanted behind statements -/
def SPost (K : PySem.W.Frag) (xr : ExR) (W : WX) (io : List Nat) (D : Ends) (F H : Hp) (own : Addr → Prop) (σ : L2.St) : SO → Prop
  | .nx e => ∀ σ' F' H', Inn K io F H own σ F' H' σ' e → D.nx σ' H'
  | .rt rv e => ∀ v σ' F' H', Inn K io F H own σ F' H' σ' e → RVok K F' H' σ' e rv v → Org H own rv v → D.rt v H'
  | .bk e => ∀ σ' F' H', Inn K io F H own σ F' H' σ' e → D.bk σ' H'
  | .ct e => ∀ σ' F' H', Inn K io F H own σ F' H' σ' e → D.ct σ' H'
  | .ex x e => ∀ cls d σ' F' H', Inn K io F H own σ F' H' σ' e → xr x cls d F' H' → W cls d σ' H'
def SRd (K : PySem.W.Frag) (xr : ExR) (W : WX) (io : List Nat) (D : Ends) (F H : Hp) (own : Addr → Prop) (σ : L2.St) (m : Option SO) : Prop := match m with
  | none => False
  | some o => SPost K xr W io D F H own σ o
/-- what is wanted behind stores -/
def URd (K : PySem.W.Frag) (xr : ExR) (W : WX) (io : List Nat) (F H : Hp) (own : Addr → Prop) (σ : L2.St) (m : R Unit) (Q : L2.St → Hp → Prop) : Prop := match m with
  | none => False
  | some (.ok _ e) => ∀ σ' F' H', Inn K io F H own σ F' H' σ' e → Q σ' H'
  | some (.ex x e) => ∀ cls d σ' F' H', Inn K io F H own σ F' H' σ' e → xr x cls d F' H' → W cls d σ' H'
section
variable {K : PySem.W.Frag} {xr : ExR} {W : WX} {io : List Nat} {F H F1 H1 F2 H2 : Hp} {own : Addr → Prop} {σ σ1 σ2 : L2.St} {env env1 env2 : Py.Env} {D D' : Ends} {α β : Type}
theorem org_back {rv : RV} {v : V} (a : Inn K io F H own σ F1 H1 σ1 env1) (h : Org H1 (Owns env1 σ1) rv v) : Org H own rv v := by
  cases rv with
  | v d => exact True.intro
  | o od =>
    intro p e
    rcases h p e with z | z
    · cases y : H p with
      | none => exact .inl rfl
      | some u =>
        obtain ⟨u', e'⟩ := a.go.dom p u y
        rw [z] at e'; cases e'
    · exact a.own p z
theorem SRd.shift {m : Option SO} (a : Inn K io F H own σ F1 H1 σ1 env1) (h : SRd K xr W io D F H own σ m) : SRd K xr W io D F1 H1 (Owns env1 σ1) σ1 m := by
  cases m with
  | none => exact h
  | some o =>
    cases o with
    | nx e => exact fun σ' F' H' b => h σ' F' H' (a.trans b)
    | rt rv e => exact fun v σ' F' H' b r g => h v σ' F' H' (a.trans b) r (org_back a g)
    | bk e => exact fun σ' F' H' b => h σ' F' H' (a.trans b)
    | ct e => exact fun σ' F' H' b => h σ' F' H' (a.trans b)
    | ex x e => exact fun cls d σ' F' H' b hx => h cls d σ' F' H' (a.trans b) hx
theorem URd.shift {m : R Unit} {Q : L2.St → Hp → Prop} (a : Inn K io F H own σ F1 H1 σ1 env1) (h : URd K xr W io F H own σ m Q) : URd K xr W io F1 H1 (Owns env1 σ1) σ1 m Q := by
  cases m with
  | none => exact h
  | some o =>
    cases o with
    | ok u e => exact fun σ' F' H' b => h σ' F' H' (a.trans b)
    | ex x e => exact fun cls d σ' F' H' b hx => h cls d σ' F' H' (a.trans b) hx
/-- an evaluation, then the rest of the statement -/
theorem SRd.bind {VA : VRel K σ α β} {m : R α} {f : α → Py.Env → Option SO} (h : SRd K xr W io D F H (Owns env σ) σ (m.st f)) :
    Rd K xr W σ VA F H env m fun b H1 => ∃ a F1 env1, m = some (.ok a env1) ∧ Stp K σ F H env F1 H1 env1 ∧ VA.r H env F1 H1 env1 a b ∧ SRd K xr W io D F H (Owns env σ) σ (f a env1) := by
  cases m with
  | none => exact h
  | some o =>
    cases o with
    | ex x e => exact fun cls d F' H' s hx => h cls d σ F' H' (Inn.of s) hx
    | ok a e => exact fun b F' H' s hv => ⟨a, F', e, rfl, s, hv, h⟩
theorem URd.bind {VA : VRel K σ α β} {m : R α} {f : α → Py.Env → R Unit} {Q : L2.St → Hp → Prop} (h : URd K xr W io F H (Owns env σ) σ (m.bind f) Q) :
    Rd K xr W σ VA F H env m fun b H1 => ∃ a F1 env1, m = some (.ok a env1) ∧ Stp K σ F H env F1 H1 env1 ∧ VA.r H env F1 H1 env1 a b ∧ URd K xr W io F H (Owns env σ) σ (f a env1) Q := by
  cases m with
  | none => exact h
  | some o =>
    cases o with
    | ex x e => exact fun cls d F' H' s hx => h cls d σ F' H' (Inn.of s) hx
    | ok a e => exact fun b F' H' s hv => ⟨a, F', e, rfl, s, hv, h⟩
/-- stores, then the rest -/
theorem SRd.stores {m : R Unit} {f : Unit → Py.Env → Option SO} (h : SRd K xr W io D F H (Owns env σ) σ (m.st f)) :
    URd K xr W io F H (Owns env σ) σ m fun σ1 H1 => ∃ F1 env1, m = some (.ok () env1) ∧ Inn K io F H (Owns env σ) σ F1 H1 σ1 env1 ∧ SRd K xr W io D F H (Owns env σ) σ (f () env1) := by
  cases m with
  | none => exact h
  | some o =>
    cases o with
    | ex x e => exact h
    | ok a e => exact fun σ' F' H' b => ⟨F', e, rfl, b, h⟩
theorem URd.stores {m : R Unit} {f : Unit → Py.Env → R Unit} {Q : L2.St → Hp → Prop} (h : URd K xr W io F H (Owns env σ) σ (m.bind f) Q) :
    URd K xr W io F H (Owns env σ) σ m fun σ1 H1 => ∃ F1 env1, m = some (.ok () env1) ∧ Inn K io F H (Owns env σ) σ F1 H1 σ1 env1 ∧ URd K xr W io F H (Owns env σ) σ (f () env1) Q := by
  cases m with
  | none => exact h
  | some o =>
    cases o with
    | ex x e => exact h
    | ok a e => exact fun σ' F' H' b => ⟨F', e, rfl, b, h⟩
/-- a value stored in a slot -/
theorem store_rv {own' : Bool} {i : Nat} {rv : RV} {v : V} {e2 : Py.Env} (s : Stp K σ F H env F1 H1 env1) (hv : (vR K σ).r H env F1 H1 env1 rv v) (e : storeRV own' i rv env1 = some e2) (hi : i ∉ io) :
    ∃ F2, Inn K io F H (Owns env σ) σ F2 H1 (σ.set i (some v)) e2 := by
  have frzd : (match Py.frz rv with
      | some d => some (env1.set i (.fz d))
      | none => none) = some e2 → ∃ F2, Inn K io F H (Owns env σ) σ F2 H1 (σ.set i (some v)) e2 := fun e => by
    cases ef : Py.frz rv with
    | none => rw [ef] at e; cases e
    | some d =>
      rw [ef] at e
      cases e
      obtain ⟨F2, r2, g2, rp, _⟩ := RVok.frz (F1 := F) (H1 := H) hv.1 s.rel ef (Owns env σ) hv.2 s.go
      have s2 : Stp K σ F H env F2 H1 env1 := ⟨r2, g2, s.sub⟩
      exact ⟨F2, (Inn.of s2).trans (Inn.store r2 rp hi)⟩
  unfold storeRV at e
  cases own' with
  | false => exact frzd e
  | true =>
    cases rv with
    | v d => exact frzd e
    | o od =>
      cases e
      obtain ⟨⟨p, rfl, h1, h2, h3⟩, h4⟩ := hv
      refine ⟨F1, s.rel.keepO h1 h2 h3, s.go, fun q hq => ?_, fun j hj => List.getElem?_set_ne fun e => hi (by rw [e]; exact hj)⟩
      rcases owns_keep hq with z | z
      · subst z; exact h4 _ rfl
      · exact .inr (s.sub.owns z)
end

section
variable (K : PySem.W.Frag) (xr : ExR) (W : WX) (Φ : Sig) (io : List Nat)
def tS (s : S) : TS := fun D σ H => ∃ F env, Rel K F H σ env ∧ SRd K xr W io D F H (Owns env σ) σ (evS thePar Φ s env)
def tSs (ss : List S) : TS := fun D σ H => ∃ F env, Rel K F H σ env ∧ SRd K xr W io D F H (Owns env σ) σ (evSs thePar Φ ss env)
def tU (t : Py.T) : TG := fun v σ H Q => ∃ F env d, Rel K F H σ env ∧ Rep K F d v ∧ URd K xr W io F H (Owns env σ) σ (asgT thePar Φ t d env) Q
def tUs (ts : List Py.T) : TGs := fun vs σ H Q => ∃ F env ds, Rel K F H σ env ∧ RepAll K F ds vs ∧ URd K xr W io F H (Owns env σ) σ (asgTs thePar Φ ts ds env) Q
end
section
variable {X : Cx} {xr : ExR} {W : WX} {Φ : Sig} {io : List Nat} {pos p0 : Pos} {k : Nat}
theorem ps_imp {s : Stmt} {t t' : TS} (h : PS X s t) (i : ∀ D σ H, t' D σ H → t D σ H) : PS X s t' := ⟨fun pins s σ H D I q => h.run pins s σ H D I (i D σ H q)⟩
theorem pss_imp {s : List Stmt} {t t' : TS} (h : PSs X s t) (i : ∀ D σ H, t' D σ H → t D σ H) : PSs X s t' := ⟨fun pins s σ H D I q => h.run pins s σ H D I (i D σ H q)⟩
theorem c_nil : PSs X [] (tSs X.K xr W Φ io []) := pss_imp pss_nil fun D σ H ⟨F, env, r, q⟩ => q σ F H (Inn.refl r)
theorem c_cons {s : S} {ss : List S} {st : Stmt} {sts : List Stmt} (h : PS X st (tS X.K xr W Φ io s)) (t : PSs X sts (tSs X.K xr W Φ io ss)) : PSs X (st :: sts) (tSs X.K xr W Φ io (s :: ss)) :=
  pss_imp (pss_cons h t) fun D σ H ⟨F, env, r, q⟩ => by
    have q' : SRd X.K xr W io D F H (Owns env σ) σ (match evS thePar Φ s env with
      | some (.nx e1) => evSs thePar Φ ss e1
      | r => r) := q
    refine ⟨F, env, r, ?_⟩
    cases e : evS thePar Φ s env with
    | none => rw [e] at q'; exact q'
    | some o =>
      rw [e] at q'
      cases o with
      | nx e1 => exact fun σ' F' H' a => ⟨F', e1, a.rel, q'.shift a⟩
      | rt rv e1 => exact q'
      | bk e1 => exact q'
      | ct e1 => exact q'
      | ex x e1 => exact q'
theorem c_pass : PS X (.Pass pos) (tS X.K xr W Φ io .pas) := ps_imp ps_pass fun D σ H ⟨F, env, r, q⟩ => q σ F H (Inn.refl r)
theorem c_brk : PS X (.Break pos) (tS X.K xr W Φ io .brk) := ps_imp ps_break fun D σ H ⟨F, env, r, q⟩ => q σ F H (Inn.refl r)
theorem c_cnt : PS X (.Continue pos) (tS X.K xr W Φ io .cnt) := ps_imp ps_continue fun D σ H ⟨F, env, r, q⟩ => q σ F H (Inn.refl r)
theorem c_nev {st : Stmt} : PS X st (tS X.K xr W Φ io .nev) := ps_imp ps_never fun D σ H ⟨F, env, r, q⟩ => q
theorem c_expr {c : E} {e : PySem.Expr} (h : PE X e (tR X.K xr W Φ c)) (hs : swapsWith e none pos.line X.env = pure false) : PS X (.Expr e pos) (tS X.K xr W Φ io (.expr c)) :=
  ps_imp (ps_expr h hs) fun D σ H ⟨F, env, r, q⟩ => by
    have q' : SRd X.K xr W io D F H (Owns env σ) σ ((ev Φ c env).st fun _ e1 => some (.nx e1)) := q
    exact ⟨F, env, r, (SRd.bind (VA := vR X.K σ) q').imp fun v H1 ⟨rv, F1, env1, _, s1, h1, q1⟩ => q1 σ F1 H1 (Inn.of s1)⟩
theorem asg_read {own : Bool} {i : Nat} {c : E} (hi : i ∉ io) {D : Ends} {σ : L2.St} {H : Hp} (h : tS X.K xr W Φ io (.asg own (.n i) c) D σ H) : tAsg (tR X.K xr W Φ c) (gName i) D σ H := by
  obtain ⟨F, env, r, q⟩ := h
  have q' : SRd X.K xr W io D F H (Owns env σ) σ ((ev Φ c env).st fun rv e1 => (storeRV own i rv e1).map SO.nx) := q
  refine ⟨F, env, r, (SRd.bind (VA := vR X.K σ) q').imp fun v H1 ⟨rv, F1, env1, _, s1, h1, q1⟩ => ?_⟩
  cases e : storeRV own i rv env1 with
  | none => rw [e] at q1; exact q1.elim
  | some e2 =>
    rw [e] at q1
    obtain ⟨F2, a⟩ := store_rv s1 h1 e hi
    exact q1 _ F2 H1 a
theorem c_set {own : Bool} {i : Nat} {c : E} {e : PySem.Expr} {x : Str} {p' : Pos} (hN : X.N.Nodup) (hx : X.N[i]? = some x) (ok : StOk X x) (hi : i ∉ io) (h : PE X e (tR X.K xr W Φ c)) (hs : swapsWith e (some (.Name x p')) pos.line X.env = pure false) :
    PS X (.Assign [.Name x p'] e pos) (tS X.K xr W Φ io (.asg own (.n i) c)) := ps_imp (ps_set hN hx ok.loc h hs ok.fn) fun D σ H q => asg_read hi q
/-- name = [..] on one line -/
theorem c_setLc {own : Bool} {i : Nat} {el : E} {t : Py.T} {it : Py.It} {cs : List E} {elt tg iter : PySem.Expr} {ifs : List PySem.Expr} {scope : Scope} {ownN : List (Str × Nat)} {x : Str} {p' spos : Pos} (xo : XOk k X) (hx : X.N[i]? = some x) (hxl : X.env.scope.names.lookup x = some .local) (hi : i ∉ io)
    (hsw : swapsWith (.ListComp elt [⟨tg, iter, ifs, 0⟩] scope pos) (some (.Name x p')) spos.line X.env = pure true)
    (hit : PI X tg iter (tI X.K xr W Φ it)) (ok : BlkOk X.N X.env.scope scope ownN) (hown : ownN.map (·.2) = slotsT t)
    (hg : ∀ (s : Shared) (H : Hp) (C : Addr) (cl : List (Str × Addr)) (fp : List Addr), PG (X.blk s H scope (compEnvC scope cl C X.env) fp) tg (tG X.K t))
    (ht : ∀ (s : Shared) (H : Hp) (C : Addr) (cl : List (Str × Addr)) (fp : List Addr), PTs (X.blk s H scope (compEnvC scope cl C X.env) fp) ifs (tCs X.K xr (fun _ _ _ _ => False) Φ cs))
    (he : ∀ (s : Shared) (H : Hp) (C : Addr) (cl : List (Str × Addr)) (fp : List Addr), PE (X.blk s H scope (compEnvC scope cl C X.env) fp) elt (tD X.K xr (fun _ _ _ _ => False) Φ el)) (hf : ∀ x, foldedSetIterable iter X.env x = pure x) :
    PS X (.Assign [.Name x p'] (.ListComp elt [⟨tg, iter, ifs, 0⟩] scope pos) spos) (tS X.K xr W Φ io (.asg own (.n i) (.lc el t it cs))) :=
  ps_imp (ps_setLc xo.calm xo.nd hx hxl hsw hit ok hg ht he hf) fun D σ H q => s_lc xo hit ok hown hg ht he σ H _ (asg_read hi q)
theorem c_ret {own : Bool} {c : E} {e : PySem.Expr} (h : PE X e (tR X.K xr W Φ c)) : PS X (.Return (some e) pos) (tS X.K xr W Φ io (.ret own c)) :=
  ps_imp (ps_ret h) fun D σ H ⟨F, env, r, q⟩ => by
    have q' : SRd X.K xr W io D F H (Owns env σ) σ ((ev Φ c env).st fun rv e1 => if own then some (.rt rv e1) else match Py.frz rv with
      | some d => some (.rt (.v d) e1)
      | none => none) := q
    refine ⟨F, env, r, (SRd.bind (VA := vR X.K σ) q').imp fun v H1 ⟨rv, F1, env1, _, s1, h1, q1⟩ => ?_⟩
    cases own with
    | true => exact q1 v σ F1 H1 (Inn.of s1) h1.1 h1.2
    | false =>
      rw [if_neg Bool.false_ne_true] at q1
      cases ef : Py.frz rv with
      | none => rw [ef] at q1; exact q1.elim
      | some d =>
        rw [ef] at q1
        obtain ⟨F2, r2, g2, rp, _⟩ := RVok.frz (F1 := F) (H1 := H) h1.1 s1.rel ef (Owns env σ) h1.2 s1.go
        have s2 : Stp X.K σ F H env F2 H1 env1 := ⟨r2, g2, s1.sub⟩
        exact q1 v σ F2 H1 (Inn.of s2) rp True.intro
theorem c_if {c : E} {a b : List S} {e : PySem.Expr} {as bs : List Stmt} (h : PT X e (tT X.K xr W Φ c)) (ha : PSs X as (tSs X.K xr W Φ io a)) (hb : PSs X bs (tSs X.K xr W Φ io b)) : PS X (.If e as bs pos) (tS X.K xr W Φ io (.ifs c a b)) :=
  ps_imp (ps_if h ha hb) fun D σ H ⟨F, env, r, q⟩ => by
    have q' : SRd X.K xr W io D F H (Owns env σ) σ (((ev Φ c env).bind asBool).st fun t e1 => if t then evSs thePar Φ a e1 else evSs thePar Φ b e1) := q
    refine ⟨F, env, r, (SRd.bind (VA := vB X.K σ) q').imp fun t H1 ⟨t', F1, env1, _, s1, h1, q1⟩ => ?_⟩
    have h1' : t' = t := h1
    subst h1'
    cases t' with
    | true => rw [if_pos rfl]; exact ⟨F1, env1, s1.rel, SRd.shift (Inn.of s1) q1⟩
    | false => rw [if_neg Bool.false_ne_true]; exact ⟨F1, env1, s1.rel, SRd.shift (Inn.of s1) q1⟩
theorem c_whl {c : E} {b : List S} {e : PySem.Expr} {bs : List Stmt} (hp : PassesOwn (model X.prog X.w) X.A X.env X.xe) (h : PT X e (tT X.K xr W Φ c)) (hb : PSs X bs (tSs X.K xr W Φ io b)) : PS X (.While e bs [] pos) (tS X.K xr W Φ io (.whl c b)) :=
  ps_imp (ps_while hp h hb) fun D σ H ⟨F, env, r, q⟩ => by
    refine ⟨fun m σ H => ∃ F env, Rel X.K F H σ env ∧ SRd X.K xr W io D F H (Owns env σ) σ (loopW (fun e => (ev Φ c e).bind asBool) (fun e => evSs thePar Φ b e) m env), ⟨mostTurns, F, env, r, q⟩, ?_⟩
    rintro m σ H ⟨F, env, r, q⟩
    cases m with
    | zero => exact q.elim
    | succ n =>
      have q' : SRd X.K xr W io D F H (Owns env σ) σ (((ev Φ c env).bind asBool).st fun t e1 => if t then match evSs thePar Φ b e1 with
        | some (.nx e2) => loopW (fun e => (ev Φ c e).bind asBool) (fun e => evSs thePar Φ b e) n e2
        | some (.ct e2) => loopW (fun e => (ev Φ c e).bind asBool) (fun e => evSs thePar Φ b e) n e2
        | some (.bk e2) => some (.nx e2)
        | r => r
        else some (.nx e1)) := q
      refine ⟨F, env, r, (SRd.bind (VA := vB X.K σ) q').imp fun t H1 ⟨t', F1, env1, _, s1, h1, q1⟩ => ?_⟩
      have h1' : t' = t := h1
      subst h1'
      have q2 := SRd.shift (Inn.of s1) q1
      cases t' with
      | true =>
        rw [if_pos rfl]
        rw [if_pos rfl] at q2
        refine ⟨_, fun σ' H' z => ⟨n, Nat.lt_succ_self n, z⟩, F1, env1, s1.rel, ?_⟩
        cases eb : evSs thePar Φ b env1 with
        | none => rw [eb] at q2; exact q2
        | some o =>
          rw [eb] at q2
          cases o with
          | nx e2 => exact fun σ' F' H' a => ⟨F', e2, a.rel, SRd.shift a q2⟩
          | ct e2 => exact fun σ' F' H' a => ⟨F', e2, a.rel, SRd.shift a q2⟩
          | bk e2 => exact q2
          | rt rv e2 => exact q2
          | ex x e2 => exact q2
      | false =>
        rw [if_neg Bool.false_ne_true]
        rw [if_neg Bool.false_ne_true] at q2
        exact q2 σ F1 H1 (Inn.refl s1.rel)
theorem inn_target {K : PySem.W.Frag} {F H : Hp} {σ σ' : L2.St} {env env' : Py.Env} {is : List Nat} (b : Bnd is σ σ') (hd : ∀ i ∈ io, i ∉ is) (r : Rel K F H σ' env') (o : ∀ p, Owns env' σ' p → Owns env σ p) : Inn K io F H (Owns env σ) σ F H σ' env' :=
  ⟨r, Go.refl _ _ _, fun p hp => .inr (o p hp), fun i hi => b.same i (hd i hi)⟩
theorem c_for {t : Py.T} {it : Py.It} {b : List S} {tg iter : PySem.Expr} {bs : List Stmt} (xo : XOk k X) (hp : PassesOwn (model X.prog X.w) X.A X.env X.xe) (hd : ∀ i ∈ io, i ∉ slotsT t) (hi : PI X tg iter (tI X.K xr W Φ it)) (hg : PG X tg (tG X.K t)) (hb : PSs X bs (tSs X.K xr W Φ io b)) (hf : ∀ x, foldedSetIterable iter X.env x = pure x) :
    PS X (.For tg iter bs [] pos) (tS X.K xr W Φ io (.fr t it b)) :=
  ps_imp (ps_for hp xo.calm hi hg hb hf) fun Ze σ H ⟨F, env, r, q⟩ => by
    have q' : SRd X.K xr W io Ze F H (Owns env σ) σ ((evIt thePar Φ it env).st fun ds e1 => loopF (fun d e => (bindT t d e).st fun _ e2 => evSs thePar Φ b e2) ds e1) := q
    refine ⟨F, env, r, (SRd.bind (VA := vW X.K σ) q').imp fun J H1 ⟨ds, F1, env1, _, s1, wk, q1⟩ => ?_⟩
    have wk : Wk X.K F1 J ds := wk
    refine ⟨fun i m σ' H' => ∃ F' env', i ≤ ds.length ∧ m = ds.length - i ∧ Le F1 F' ∧ Rel X.K F' H' σ' env' ∧ SRd X.K xr W io Ze F' H' (Owns env' σ') σ' (loopF (fun d e => (bindT t d e).st fun _ e2 => evSs thePar Φ b e2) (ds.drop i) env'), ⟨ds.length, F1, env1, Nat.zero_le _, rfl, Le.refl _, s1.rel, SRd.shift (Inn.of s1) q1⟩, ?_⟩
    rintro i m σ' H2 ⟨F2, env2, hle, rfl, m2, r2, q2⟩
    by_cases hlt : i < ds.length
    · right
      have ed : ds.drop i = ds[i] :: ds.drop (i + 1) := List.drop_eq_getElem_cons hlt
      have hget : ds[i]? = some ds[i] := List.getElem?_eq_getElem hlt
      generalize hd' : ds[i] = d at ed hget
      rw [ed] at q2
      obtain ⟨hgo, hy⟩ := wk.go F2 H2 i d m2 r2.le hget
      refine ⟨hgo, _, fun σ'' H'' n => ⟨ds.length - (i + 1), by omega, n⟩, fun v H3 y => ?_⟩
      obtain ⟨F3, g3, rp3⟩ := hy v H3 y
      have r3 := r2.goN g3
      have a3 : Inn X.K io F2 H2 (Owns env2 σ') σ' F3 H3 σ' env2 := Inn.of (Stp.goN r2 g3)
      have q3 : SRd X.K xr W io Ze F3 H3 (Owns env2 σ') σ' (match (bindT t d env2).st fun _ e2 => evSs thePar Φ b e2 with
        | some (.nx e2) => loopF (fun d e => (bindT t d e).st fun _ e2 => evSs thePar Φ b e2) (ds.drop (i + 1)) e2
        | some (.ct e2) => loopF (fun d e => (bindT t d e).st fun _ e2 => evSs thePar Φ b e2) (ds.drop (i + 1)) e2
        | some (.bk e2) => some (.nx e2)
        | r => r) := SRd.shift a3 q2
      refine ⟨F3, env2, d, r3, rp3, ?_⟩
      have noex : ∀ x e, bindT t d env2 ≠ some (.ex x e) := by
        have one : ∀ (t : Py.T) (d : D) (en : Py.Env) x e, setN t d en ≠ some (.ex x e) := by
          intro t d en x e h
          cases t <;> simp [setN] at h
        have ns : ∀ (ts : List Py.T) (ds : List D) (en : Py.Env) x e, setNs ts ds en ≠ some (.ex x e) := by
          intro ts
          induction ts with
          | nil => intro ds en x e h; cases ds <;> cases h
          | cons t ts ih => intro ds en x e h; cases ds with
            | nil => cases h
            | cons d ds =>
              have h' : ((setN t d en).bind fun _ e1 => setNs ts ds e1) = some (.ex x e) := h
              cases z : setN t d en with
              | none => rw [z] at h'; cases h'
              | some o =>
                cases o with
                | ex y e2 => exact one _ _ _ _ _ z
                | ok u e2 => rw [z] at h'; exact ih _ _ _ _ h'
        intro x e h
        cases t with
        | n i => cases h
        | s i k => cases h
        | t ts => cases d <;> first | exact ns ts _ env2 x e h | cases h
      cases eb : bindT t d env2 with
      | none => rw [eb] at q3; exact q3.elim
      | some o =>
        cases o with
        | ex x e => exact noex x e eb
        | ok u e4 =>
          rw [eb] at q3
          intro σ4 b4 r4 ow4 sb4
          have a4 : Inn X.K io F3 H3 (Owns env2 σ') σ' F3 H3 σ4 e4 := inn_target b4 hd r4 ow4
          have q4 : SRd X.K xr W io Ze F3 H3 (Owns e4 σ4) σ4 (match evSs thePar Φ b e4 with
            | some (.nx e2) => loopF (fun d e => (bindT t d e).st fun _ e2 => evSs thePar Φ b e2) (ds.drop (i + 1)) e2
            | some (.ct e2) => loopF (fun d e => (bindT t d e).st fun _ e2 => evSs thePar Φ b e2) (ds.drop (i + 1)) e2
            | some (.bk e2) => some (.nx e2)
            | r => r) := SRd.shift a4 q3
          refine ⟨F3, e4, r4, ?_⟩
          have m3 : Le F1 F3 := m2.trans g3.mono
          cases ec : evSs thePar Φ b e4 with
          | none => rw [ec] at q4; exact q4
          | some o =>
            rw [ec] at q4
            cases o with
            | nx e2 => exact fun σ5 F5 H5 a => ⟨F5, e2, by omega, rfl, m3.trans a.go.mono, a.rel, SRd.shift a q4⟩
            | ct e2 => exact fun σ5 F5 H5 a => ⟨F5, e2, by omega, rfl, m3.trans a.go.mono, a.rel, SRd.shift a q4⟩
            | bk e2 => exact q4
            | rt rv e2 => exact q4
            | ex x e2 => exact q4
    · left
      have ei : i = ds.length := by omega
      subst ei
      refine ⟨wk.stop F2 H2 m2 r2.le, ?_⟩
      rw [List.drop_length] at q2
      exact q2 σ' F2 H2 (Inn.refl r2)
end
end Py

/-! Snd7: stores by subscripts and parts, several names at once. -/
namespace Py
open PySem PySem.Spec PyProof.Rows L2
section
variable {X : Cx} {xr : ExR} {W : WX} {Φ : Sig} {io : List Nat} {pos p0 : Pos} {k : Nat}
theorem inn_stp {K : PySem.W.Frag} {F H F1 H1 F2 H2 : Hp} {own : Addr → Prop} {σ σ1 : L2.St} {env1 env2 : Py.Env} (a : Inn K io F H own σ F1 H1 σ1 env1) (s : Stp K σ1 F1 H1 env1 F2 H2 env2) : Inn K io F H own σ F2 H2 σ1 env2 := a.trans (Inn.of s)
theorem u_n (hN : X.N.Nodup) {i : Nat} {x : Str} (hx : X.N[i]? = some x) (ok : StOk X x) (hi : i ∉ io) : PG X (.Name x pos) (tU X.K xr W Φ io (.n i)) :=
  pg_imp (pg_name hN hx ok.loc ok.fn) fun v σ H Q ⟨F, env, d, r, rp, q⟩ => q _ F H (Inn.store r rp hi)
theorem u_s {i : Nat} {x : Str} {c : E} {e : PySem.Expr} {pn : Pos} (hN : X.N[i]? = some x) (hv : Vis X.env.scope x) (hd : (x == ("__debug__" : Str)) = false) (hcd : (x == ("__classdict__" : Str)) = false) (h : PE X e (tD X.K xr W Φ c))
    (ha : ∀ v, assign (.Subscript (.Name x pn) e pos) X.env v = (do
      let ov ← holding [v] (eval (.Name x pn) X.env)
      let iv ← holding [v, ov] (eval e X.env)
      standAt pos
      holding [v, ov, iv] (setItem ov iv v)
      release [v, ov, iv] [])) : PG X (.Subscript (.Name x pn) e pos) (tU X.K xr W Φ io (.s i c)) :=
  pg_imp (pg_sub (pe_var hN hv hd hcd) h set_list ha) fun v σ H Q ⟨F, env, d, r, rp, q⟩ => by
    have q' : URd X.K xr W io F H (Owns env σ) σ (if ownsL i env then (fzR (ev Φ c env)).bind fun k' e1 => setOp i k' d e1 else none) Q := q
    by_cases ho : ownsL i env = true
    · rw [if_pos ho] at q'
      obtain ⟨xs0, he0⟩ := ownsL_of ho
      obtain ⟨p, ep, _, vs0, hp0, _⟩ := r.slot i _ he0
      refine ⟨.ref p, ep, F, env, r, (URd.bind (VA := vD X.K σ) q').imp fun y H1 ⟨dk, F1, env1, ek, s1, h1, q1⟩ => ?_⟩
      unfold setOp at q1
      split at q1
      · rename_i xs j he1
        split at q1
        · rename_i n hj
          obtain ⟨p', ep', hF, vs, hp, rv⟩ := s1.rel.slot i _ he1
          rw [ep] at ep'
          cases ep'
          have h1' : Rep X.K F1 (.int j) y := h1
          unfold Rep at h1'
          subst h1'
          have w : OwnOk X.K F1 (upd H1 p (.lst (vs.set n v))) p (.lst (xs.set n d)) := ⟨_, upd_same, rv.set n (Rep.mono s1.go.mono rp)⟩
          have s2 : Stp X.K σ F1 H1 env1 F1 (upd H1 p (.lst (vs.set n v))) (env1.set i (.own (.lst (xs.set n d)))) := ⟨s1.rel.write he1 ep w, Go.write s1.rel he1 ep, sub_set fun _ _ => ⟨_, he1⟩⟩
          exact ⟨p, vs, j, n, rfl, rfl, hp, by rw [rv.len, ← ixOf_eq]; exact hj, q1 σ F1 _ (Inn.of (s1.trans s2))⟩
        · exact q1.elim
      · exact q1.elim
    · rw [if_neg ho] at q'
      exact q'.elim
theorem us_nil : PGs X [] (tUs X.K xr W Φ io []) := pgs_imp pgs_nil fun vs σ H Q ⟨F, env, ds, r, rp, q⟩ => by
  cases ds with
  | nil => exact ⟨rp.inv0, q σ F H (Inn.refl r)⟩
  | cons d ds => exact q.elim
theorem us_cons {t : Py.T} {ts : List Py.T} {e : PySem.Expr} {es : List PySem.Expr} (h : PG X e (tU X.K xr W Φ io t)) (hs : PGs X es (tUs X.K xr W Φ io ts)) (ha : (assignEach (e :: es) X.env).map (·.2) = assign e X.env :: (assignEach es X.env).map (·.2)) : PGs X (e :: es) (tUs X.K xr W Φ io (t :: ts)) :=
  pgs_imp (pgs_cons h hs ha) fun vs σ H Q ⟨F, env, ds, r, rp, q⟩ => by
    cases ds with
    | nil => exact q.elim
    | cons d ds =>
      obtain ⟨v, vr, rfl, h1, h2⟩ := rp.inv
      have q' : URd X.K xr W io F H (Owns env σ) σ ((asgT thePar Φ t d env).bind fun _ e1 => asgTs thePar Φ ts ds e1) Q := q
      refine ⟨v, vr, rfl, F, env, d, r, h1, ?_⟩
      have z := URd.stores q'
      cases em : asgT thePar Φ t d env with
      | none => rw [em] at z; exact z
      | some o =>
        rw [em] at z
        cases o with
        | ex x e2 => exact z
        | ok u e2 =>
          intro σ1 F1 H1 a
          have q1 : URd X.K xr W io F H (Owns env σ) σ (asgTs thePar Φ ts ds e2) Q := by
            rw [em] at q'
            exact q'
          exact ⟨F1, e2, ds, a.rel, h2.mono a.go.mono, URd.shift a q1⟩
theorem u_t (hc : X.calm = true) {ts : List Py.T} {es : List PySem.Expr} {x1 : Nat} (hn : (assignEach es X.env).length = ts.length) (hst : (assignEach es X.env).findIdx? (·.1) = none) (h : PGs X es (tUs X.K xr W Φ io ts)) :
    PG X (.Tuple es x1 pos) (fun v σ H Q => ∃ F env ds, Rel X.K F H σ env ∧ Rep X.K F (.tup ds) v ∧ ds.length = ts.length ∧ URd X.K xr W io F H (Owns env σ) σ (asgTs thePar Φ ts ds env) Q) :=
  pg_imp (pg_tup hc h hn hst) fun v σ H Q ⟨F, env, ds, r, rp, hl, q⟩ => by
    unfold Rep at rp
    obtain ⟨a, vs, rfl, ha, rv⟩ := rp
    exact ⟨a, vs, rfl, .inl (.inl (r.le _ _ ha)), by rw [rv.len, hl], F, env, ds, r, rv, q⟩
/-- o[i] = e -/
theorem c_setS {own : Bool} {i : Nat} {c ci : E} {e te : PySem.Expr} (h : PE X e (tR X.K xr W Φ c)) (hg : PG X te (tU X.K xr W Φ io (.s i ci))) (hs : swapsWithSole [te] e pos.line X.env = pure false) (hw : swappedStores [te] e X.env = pure none) (ha : (assignEach [te] X.env).map (·.2) = [assign te X.env]) :
    PS X (.Assign [te] e pos) (tS X.K xr W Φ io (.asg own (.s i ci) c)) :=
  ps_imp (ps_asg (PE.d h) hg hs hw ha) fun D σ H ⟨F, env, r, q⟩ => by
    have q' : SRd X.K xr W io D F H (Owns env σ) σ ((fzR (ev Φ c env)).st fun d e1 => (asgT thePar Φ (.s i ci) d e1).st fun _ e2 => some (.nx e2)) := q
    refine ⟨F, env, r, (SRd.bind (VA := vD X.K σ) q').imp fun v H1 ⟨d, F1, env1, _, s1, h1, q1⟩ => ?_⟩
    refine ⟨F1, env1, d, s1.rel, h1, ?_⟩
    have z := SRd.stores (SRd.shift (Inn.of s1) q1)
    cases em : asgT thePar Φ (.s i ci) d env1 with
    | none => rw [em] at z; exact z
    | some o =>
      rw [em] at z
      cases o with
      | ex x e2 => exact z
      | ok u e2 =>
        intro σ' F' H' a
        obtain ⟨F2, e3, ez, b, q2⟩ := z σ' F' H' a
        cases ez
        exact q2 σ' F2 H' b
/-- a, o[i], .. = e -/
theorem c_setT {own : Bool} {c : E} {ts : List Py.T} {e : PySem.Expr} {es : List PySem.Expr} {x1 : Nat} {pt : Pos} (hc : X.calm = true) (h : PE X e (tR X.K xr W Φ c)) (hg : PGs X es (tUs X.K xr W Φ io ts)) (hn : (assignEach es X.env).length = ts.length) (hst : (assignEach es X.env).findIdx? (·.1) = none)
    (hs : swapsWithSole [.Tuple es x1 pt] e pos.line X.env = pure false) (hw : swappedStores [.Tuple es x1 pt] e X.env = pure none) (ha : (assignEach [.Tuple es x1 pt] X.env).map (·.2) = [assign (.Tuple es x1 pt) X.env]) :
    PS X (.Assign [.Tuple es x1 pt] e pos) (tS X.K xr W Φ io (.asg own (.t ts) c)) :=
  ps_imp (ps_asg (PE.d h) (u_t hc hn hst hg) hs hw ha) fun D σ H ⟨F, env, r, q⟩ => by
    have q' : SRd X.K xr W io D F H (Owns env σ) σ ((fzR (ev Φ c env)).st fun d e1 => match d with
      | .tup ds => if ds.length = ts.length then (asgTs thePar Φ ts ds e1).st fun _ e2 => some (.nx e2) else none
      | _ => none) := q
    refine ⟨F, env, r, (SRd.bind (VA := vD X.K σ) q').imp fun v H1 ⟨d, F1, env1, _, s1, h1, q1⟩ => ?_⟩
    split at q1
    · rename_i ds _
      by_cases hl : ds.length = ts.length
      · rw [if_pos hl] at q1
        refine ⟨F1, env1, ds, s1.rel, h1, hl, ?_⟩
        have z := SRd.stores (SRd.shift (Inn.of s1) q1)
        cases em : asgTs thePar Φ ts ds env1 with
        | none => rw [em] at z; exact z
        | some o =>
          rw [em] at z
          cases o with
          | ex x e2 => exact z
          | ok u e2 =>
            intro σ' F' H' a
            obtain ⟨F2, e3, ez, b, q2⟩ := z σ' F' H' a
            cases ez
            exact q2 σ' F2 H' b
      · rw [if_neg hl] at q1
        exact q1.elim
    · exact q1.elim

/-! several names at once -/
def RVs (K : PySem.W.Frag) (F H : Hp) (σ : L2.St) (env : Py.Env) : List RV → List V → Prop
  | [], vs => vs = []
  | p :: ps, vs => ∃ v r, vs = v :: r ∧ RVok K F H σ env p v ∧ RVs K F H σ env ps r
def newRs : List RV → List V → List Addr
  | .o _ :: ps, .ref p :: vs => p :: newRs ps vs
  | _ :: ps, _ :: vs => newRs ps vs
  | _, _ => []
theorem RVs.stp {K : PySem.W.Frag} {σ : L2.St} {F1 H1 F2 H2 : Hp} {env1 env2 : Py.Env} : ∀ {ps : List RV} {vs : List V}, RVs K F1 H1 σ env1 ps vs → Stp K σ F1 H1 env1 F2 H2 env2 → RVs K F2 H2 σ env2 ps vs
  | [], _, h, _ => h
  | p :: ps, _, ⟨v, r, e, h1, h2⟩, s => ⟨v, r, e, RVok.go (H0 := H1) h1 s.rel s.go s.sub, RVs.stp h2 s⟩
theorem newRs_mem {K : PySem.W.Frag} {σ : L2.St} {F H : Hp} {env : Py.Env} : ∀ {ps : List RV} {vs : List V}, RVs K F H σ env ps vs → ∀ p ∈ newRs ps vs, ¬ Owns env σ p ∧ ∃ o, H p = some o
  | [], _, _, p, hp => by simp [newRs] at hp
  | a :: ps, _, ⟨v, r, e, h1, h2⟩, p, hp => by
    subst e
    cases a with
    | v d => exact newRs_mem h2 p hp
    | o od =>
      obtain ⟨q, rfl, _, h4, h5⟩ := h1
      rcases List.mem_cons.mp hp with rfl | hp
      · exact ⟨h5, h4.there⟩
      · exact newRs_mem h2 p hp
theorem newRs_cons (a : RV) (ps : List RV) (v : V) (vs : List V) : newRs (a :: ps) (v :: vs) = newRs [a] [v] ++ newRs ps vs := by
  cases a with
  | o od => cases v <;> rfl
  | v d => rfl
def vRs (K : PySem.W.Frag) (σ : L2.St) : VRel K σ (List RV) (List V) where
  r := fun H env F' H' env' ps vs => RVs K F' H' σ env' ps vs ∧ (newRs ps vs).Nodup ∧ ∀ p ∈ newRs ps vs, H p = none ∨ Owns env σ p
  mono := by
    intro F H env F1 H1 env1 F2 H2 env2 a b s h
    refine ⟨h.1, h.2.1, fun p hp => ?_⟩
    rcases h.2.2 p hp with q | q
    · cases z : H p with
      | none => exact .inl rfl
      | some u =>
        obtain ⟨u', e'⟩ := s.go.dom p u z
        rw [q] at e'; cases e'
    · exact .inr (s.sub.owns q)
def tRs (K : PySem.W.Frag) (xr : ExR) (W : WX) (Φ : Sig) (cs : List E) : TA := fun σ H Q => ∃ F env, Rel K F H σ env ∧ Rd K xr W σ (vRs K σ) F H env (evRs thePar Φ cs env) Q
theorem rs_nil : PA X [] (tRs X.K xr W Φ []) := ⟨fun pos pins s σ H Q I ⟨F, env, r, q⟩ => pa_nil.run pos pins s σ H Q I (q [] F H (Stp.refl r) ⟨rfl, List.nodup_nil, fun p hp => by simp [newRs] at hp⟩)⟩
theorem rs_cons {c : E} {cs : List E} {e : PySem.Expr} {es : List PySem.Expr} (h : PE X e (tR X.K xr W Φ c)) (t : PA X es (tRs X.K xr W Φ cs)) (hs : nst e = true) : PA X (e :: es) (tRs X.K xr W Φ (c :: cs)) :=
  ⟨fun pos pins s σ H Q I ⟨F, env, r, q⟩ => (pa_cons h t (star_cons hs)).run pos pins s σ H Q I (by
    have q' : Rd X.K xr W σ (vRs X.K σ) F H env ((ev Φ c env).bind fun p e1 => (evRs thePar Φ cs e1).bind fun ps e2 => some (.ok (p :: ps) e2)) Q := q
    refine ⟨F, env, r, (Rd.bind0 (VA := vR X.K σ) q').imp fun x H1 ⟨p, F1, env1, _, s1, h1, q1⟩ => ?_⟩
    have q1' : Rd X.K xr W σ (vRs X.K σ) F H env ((evRs thePar Φ cs env1).bind fun ps e2 => some (.ok (p :: ps) e2)) Q := q1
    refine ⟨F1, env1, s1.rel, ?_⟩
    cases em : evRs thePar Φ cs env1 with
    | none => rw [em] at q1'; exact q1'.elim
    | some o =>
      rw [em] at q1'
      cases o with
      | ex x' e2 => exact fun cls d F' H' s2 hx => q1' cls d F' H' (s1.trans s2) hx
      | ok ps e2 =>
        intro xs F2 H2 s2 h2
        refine q1' (x :: xs) F2 H2 (s1.trans s2) ⟨⟨x, xs, rfl, RVok.go (H0 := H1) h1.1 s2.rel s2.go s2.sub, h2.1⟩, ?_, fun q hq => ?_⟩
        · rw [newRs_cons]
          refine List.nodup_append.mpr ⟨?_, h2.2.1, fun a ha b hb e => ?_⟩
          · cases p with
            | o od => cases x <;> simp [newRs]
            | _ => simp [newRs]
          · subst e
            have n1 : ¬ Owns env1 σ a ∧ ∃ o, H1 a = some o := newRs_mem (ps := [p]) (vs := [x]) ⟨x, [], rfl, h1.1, rfl⟩ a ha
            obtain ⟨no, o, ho⟩ := n1
            rcases h2.2.2 a hb with z | z
            · rw [ho] at z; cases z
            · exact no z
        · rw [newRs_cons] at hq
          rcases List.mem_append.mp hq with hq | hq
          · cases p with
            | v d => simp [newRs] at hq
            | o od =>
              obtain ⟨p', e', _⟩ := h1.1
              subst e'
              have : q = p' := by simpa [newRs] using hq
              subst this
              exact h1.2 q rfl
          · rcases h2.2.2 q hq with z | z
            · cases y : H q with
              | none => exact .inl rfl
              | some u =>
                obtain ⟨u', e'⟩ := s1.go.dom q u y
                rw [z] at e'; cases e'
            · exact .inr (s1.sub.owns z))⟩
/-- names in a row get their values -/
def setAll : List Nat → List V → L2.St → L2.St
  | i :: is, v :: vs, σ => setAll is vs (σ.set i (some v))
  | _, _, σ => σ
theorem store_rvs {K : PySem.W.Frag} {F H : Hp} {own : Addr → Prop} {σ : L2.St} : ∀ {ws : List (Bool × Nat)} {rs : List RV} {vs : List V} {σ1 : L2.St} {F1 H1 : Hp} {env1 e2 : Py.Env}, Inn K io F H own σ F1 H1 σ1 env1 → RVs K F1 H1 σ1 env1 rs vs → (newRs rs vs).Nodup → (∀ p ∈ newRs rs vs, H p = none ∨ own p) → storeRVs ws rs env1 = some e2 → (∀ w ∈ ws, w.2 ∉ io) →
    vs.length = ws.length ∧ ∃ F2, Inn K io F H own σ F2 H1 (setAll (ws.map (·.2)) vs σ1) e2
  | [], [], vs, σ1, F1, H1, env1, e2, a, h, _, _, e, _ => by
    cases e
    have h' : vs = [] := h
    subst h'
    exact ⟨rfl, F1, a⟩
  | w :: ws, [], _, _, _, _, _, _, _, _, _, _, e, _ => by cases e
  | [], r :: rs, _, _, _, _, _, _, _, _, _, _, e, _ => by cases e
  | w :: ws, rv :: rs, vs, σ1, F1, H1, env1, e2, a, ⟨v, vr, ev, h1, h2⟩, nd, og, e, hi => by
    subst ev
    have e' : (match storeRV w.1 w.2 rv env1 with
      | some e1 => storeRVs ws rs e1
      | none => none) = some e2 := e
    cases es : storeRV w.1 w.2 rv env1 with
    | none => rw [es] at e'; cases e'
    | some e1 =>
      rw [es] at e'
      rw [newRs_cons] at nd og
      have nd2 := (List.nodup_append.mp nd)
      -- the rest stays good behind the store
      have wi : w.2 ∉ io := hi w List.mem_cons_self
      have key : ∃ F2, Inn K io F H own σ F2 H1 (σ1.set w.2 (some v)) e1 ∧ RVs K F2 H1 (σ1.set w.2 (some v)) e1 rs vr := by
        have frzd : (match Py.frz rv with
            | some d => some (env1.set w.2 (.fz d))
            | none => none) = some e1 → ∃ F2, Inn K io F H own σ F2 H1 (σ1.set w.2 (some v)) e1 ∧ RVs K F2 H1 (σ1.set w.2 (some v)) e1 rs vr := fun e => by
          cases ef : Py.frz rv with
          | none => rw [ef] at e; cases e
          | some d =>
            rw [ef] at e
            cases e
            -- freeze
            have fz : ∃ F2, Rel K F2 H1 σ1 env1 ∧ Go F H F2 H1 own ∧ Rep K F2 d v ∧ RVs K F2 H1 σ1 env1 rs vr := by
              cases rv with
              | v d' =>
                simp only [Py.frz, Option.some.injEq] at ef
                subst ef
                exact ⟨F1, a.rel, a.go, h1, h2⟩
              | o od =>
                obtain ⟨p, rfl, x1, x2, x3⟩ := h1
                obtain ⟨o, hp, rp⟩ := x2.freeze ef x1
                have m : Le F1 (upd F1 p o) := fun b u q => by rw [upd_ne (ne_of_none q x1)]; exact q
                have pn : p ∉ newRs rs vr := fun z => (nd2.2.2 p (by simp [newRs]) p z) rfl
                refine ⟨upd F1 p o, a.rel.freeze hp x3, ⟨a.go.mono.trans m, a.go.keep, fun b u q => ?_, a.go.dom⟩, rp, ?_⟩
                · by_cases eb : b = p
                  · subst eb
                    exact .inr (og b (by simp [newRs]))
                  · rw [upd_ne eb] at q; exact a.go.new b u q
                · clear e' es nd2 nd og
                  have : ∀ {rs : List RV} {vr : List V}, RVs K F1 H1 σ1 env1 rs vr → p ∉ newRs rs vr → RVs K (upd F1 p o) H1 σ1 env1 rs vr := by
                    intro rs
                    induction rs with
                    | nil => intro vr h _; exact h
                    | cons r rs ih =>
                      intro vr ⟨v, vr', e, y1, y2⟩ hn
                      subst e
                      rw [newRs_cons] at hn
                      refine ⟨v, vr', rfl, ?_, ih y2 fun z => hn (List.mem_append_right _ z)⟩
                      cases r with
                      | v d => exact Rep.mono m y1
                      | o od2 =>
                        obtain ⟨p2, rfl, z1, z2, z3⟩ := y1
                        have ne : p2 ≠ p := fun z => hn (List.mem_append_left _ (by rw [← z]; simp [newRs]))
                        exact ⟨p2, rfl, by rw [upd_ne ne]; exact z1, z2.go m fun _ q => q, z3⟩
                  exact this h2 pn
            obtain ⟨F2, r2, g2, rp, hr⟩ := fz
            have a2 : Inn K io F H own σ F2 H1 σ1 env1 := ⟨r2, g2, a.own, a.io⟩
            refine ⟨F2, a2.trans (Inn.store r2 rp wi), ?_⟩
            clear e' es nd2 nd og h2
            have : ∀ {rs : List RV} {vr : List V}, RVs K F2 H1 σ1 env1 rs vr → RVs K F2 H1 (σ1.set w.2 (some v)) (env1.set w.2 (.fz d)) rs vr := by
              intro rs
              induction rs with
              | nil => intro vr h; exact h
              | cons r rs ih =>
                intro vr ⟨v', vr', e, y1, y2⟩
                subst e
                refine ⟨v', vr', rfl, ?_, ih y2⟩
                cases r with
                | v d => exact y1
                | o od2 =>
                  obtain ⟨p2, rfl, z1, z2, z3⟩ := y1
                  exact ⟨p2, rfl, z1, z2, fun z => z3 (owns_store z)⟩
            exact this hr
        unfold storeRV at es
        cases hw : w.1 with
        | false => rw [hw] at es; exact frzd es
        | true =>
          rw [hw] at es
          cases rv with
          | v d => exact frzd es
          | o od =>
            cases es
            obtain ⟨p, rfl, x1, x2, x3⟩ := h1
            have pn : p ∉ newRs rs vr := fun z => (nd2.2.2 p (by simp [newRs]) p z) rfl
            have po : H p = none ∨ own p := og p (by simp [newRs])
            refine ⟨F1, ⟨a.rel.keepO x1 x2 x3, a.go, fun q hq => ?_, fun j hj => ?_⟩, ?_⟩
            · rcases owns_keep hq with z | z
              · subst z; exact po
              · exact a.own q z
            · rw [List.getElem?_set_ne (fun z => wi (by rw [z]; exact hj))]; exact a.io j hj
            · clear e' nd2 nd og
              have : ∀ {rs : List RV} {vr : List V}, RVs K F1 H1 σ1 env1 rs vr → p ∉ newRs rs vr → RVs K F1 H1 (σ1.set w.2 (some (V.ref p))) (env1.set w.2 (.own od)) rs vr := by
                intro rs
                induction rs with
                | nil => intro vr h _; exact h
                | cons r rs ih =>
                  intro vr ⟨v', vr', e, y1, y2⟩ hn
                  subst e
                  rw [newRs_cons] at hn
                  refine ⟨v', vr', rfl, ?_, ih y2 fun z => hn (List.mem_append_right _ z)⟩
                  cases r with
                  | v d => exact y1
                  | o od2 =>
                    obtain ⟨p2, rfl, z1, z2, z3⟩ := y1
                    refine ⟨p2, rfl, z1, z2, fun z => ?_⟩
                    rcases owns_keep z with y | y
                    · exact hn (List.mem_append_left _ (by rw [← y]; simp [newRs]))
                    · exact z3 y
              exact this h2 pn
      obtain ⟨F2, a2, hr⟩ := key
      obtain ⟨l, F3, a3⟩ := store_rvs (ws := ws) (rs := rs) a2 hr nd2.2.1 (fun p hp => og p (List.mem_append_right _ hp)) e' fun w' hw' => hi w' (List.mem_cons_of_mem _ hw')
      exact ⟨by rw [List.length_cons, List.length_cons, l], F3, a3⟩
theorem par_read {ws : List (Bool × Nat)} {cs : List E} (hi : ∀ w ∈ ws, w.2 ∉ io) {D : Ends} {σ : L2.St} {H : Hp} (h : tS X.K xr W Φ io (.par ws cs) D σ H) : tRs X.K xr W Φ cs σ H fun vs H1 => vs.length = ws.length ∧ D.nx (setAll (ws.map (·.2)) vs σ) H1 := by
  obtain ⟨F, env, r, q⟩ := h
  have q' : SRd X.K xr W io D F H (Owns env σ) σ ((evRs thePar Φ cs env).st fun rs e1 => (storeRVs ws rs e1).map SO.nx) := q
  refine ⟨F, env, r, (SRd.bind (VA := vRs X.K σ) q').imp fun vs H1 ⟨rs, F1, env1, _, s1, h1, q1⟩ => ?_⟩
  cases e : storeRVs ws rs env1 with
  | none => rw [e] at q1; exact q1.elim
  | some e2 =>
    rw [e] at q1
    obtain ⟨l, F2, a⟩ := store_rvs (Inn.of (io := io) s1) h1.1 h1.2.1 h1.2.2 e hi
    exact ⟨l, q1 _ F2 H1 a⟩
theorem c_par2 {o1 o2 : Bool} {i j : Nat} {x y : Str} {a b : PySem.Expr} {ca cb : E} {px py pt : Pos} {kt k2 : Nat} {pt2 : Pos} (hc : X.calm = true) (hN : X.N.Nodup) (hi : X.N[i]? = some x) (hj : X.N[j]? = some y) (hij : i ≠ j) (hx : X.env.scope.names.lookup x = some .local) (hy : X.env.scope.names.lookup y = some .local) (ii : i ∉ io) (ij : j ∉ io)
    (ha : PA X [a, b] (tRs X.K xr W Φ [ca, cb])) (hw : swappedStores [.Tuple [.Name x px, .Name y py] kt pt] (.Tuple [a, b] k2 pt2) X.env = pure (some [x, y])) (hs : swapsWithSole [.Tuple [.Name x px, .Name y py] kt pt] (.Tuple [a, b] k2 pt2) pos.line X.env = pure false) :
    PS X (.Assign [.Tuple [.Name x px, .Name y py] kt pt] (.Tuple [a, b] k2 pt2) pos) (tS X.K xr W Φ io (.par [(o1, i), (o2, j)] [ca, cb])) :=
  ps_imp (ps_par hc hN hi hj hij hx hy ha hw hs) fun D σ H q => by
    have hio : ∀ w ∈ [(o1, i), (o2, j)], w.2 ∉ io := fun w hw => by
      rcases List.mem_cons.mp hw with rfl | hw
      · exact ii
      · rw [List.mem_singleton.mp hw]; exact ij
    obtain ⟨F, env, r, q⟩ := par_read hio q
    refine ⟨F, env, r, q.imp fun vs H1 ⟨l, q1⟩ => ?_⟩
    match vs, l, q1 with
    | [v, w], _, q1 => exact ⟨v, w, rfl, q1⟩
theorem c_par3 {o1 o2 o3 : Bool} {i j l : Nat} {x y z : Str} {a b c : PySem.Expr} {ca cb cc : E} {px py pz pt : Pos} {kt k2 : Nat} {pt2 : Pos} (hc : X.calm = true) (hN : X.N.Nodup) (hi : X.N[i]? = some x) (hj : X.N[j]? = some y) (hl : X.N[l]? = some z) (hij : i ≠ j) (hil : i ≠ l) (hjl : j ≠ l) (hx : X.env.scope.names.lookup x = some .local) (hy : X.env.scope.names.lookup y = some .local) (hz : X.env.scope.names.lookup z = some .local) (ii : i ∉ io) (ij : j ∉ io) (il : l ∉ io)
    (ha : PA X [a, b, c] (tRs X.K xr W Φ [ca, cb, cc])) (hw : swappedStores [.Tuple [.Name x px, .Name y py, .Name z pz] kt pt] (.Tuple [a, b, c] k2 pt2) X.env = pure (some [x, y, z])) (hs : swapsWithSole [.Tuple [.Name x px, .Name y py, .Name z pz] kt pt] (.Tuple [a, b, c] k2 pt2) pos.line X.env = pure false) :
    PS X (.Assign [.Tuple [.Name x px, .Name y py, .Name z pz] kt pt] (.Tuple [a, b, c] k2 pt2) pos) (tS X.K xr W Φ io (.par [(o1, i), (o2, j), (o3, l)] [ca, cb, cc])) :=
  ps_imp (ps_par3 hc hN hi hj hl hij hil hjl hx hy hz ha hw hs) fun D σ H q => by
    have hio : ∀ w ∈ [(o1, i), (o2, j), (o3, l)], w.2 ∉ io := fun w hw => by
      rcases List.mem_cons.mp hw with rfl | hw
      · exact ii
      · rcases List.mem_cons.mp hw with rfl | hw
        · exact ij
        · rw [List.mem_singleton.mp hw]; exact il
    obtain ⟨F, env, r, q⟩ := par_read hio q
    refine ⟨F, env, r, q.imp fun vs H1 ⟨l, q1⟩ => ?_⟩
    match vs, l, q1 with
    | [v, w, u], _, q1 => exact ⟨v, w, u, rfl, q1⟩
end
end Py

/-! Chk: a check that a term of the evaluator's language is the def's text; what it checks, it has proved. -/
namespace Py
open PySem PySem.Spec PyProof.Rows L2

structure Tab where
  nm : List Str
  sc : Scope
  isDef : Bool
structure KwS where
  f : Nat
  np : Nat
  kn : List Str
  pm : List Nat
structure Gtab where
  free : List Str
  cons : List (Str × D)
  fnm : List Str
  kb : List KwS
inductive Md where
  | v | p | t
def ndb (x : Str) : Bool := !(x == ("__debug__" : Str)) && !(x == ("__classdict__" : Str))
def visK : Option NameKind → Bool
  | some .local => true
  | some .cell => true
  | some .free => true
  | _ => false
def visC (T : Tab) (i : Nat) (x : Str) : Bool := decide (T.nm[i]? = some x) && (visK (T.sc.names.lookup x) && ndb x)
def stC (T : Tab) (i : Nat) (x : Str) : Bool := decide (T.nm[i]? = some x) && (match T.sc.names.lookup x with
  | some .local => true
  | some .cell => T.isDef
  | _ => false)
def glC (T : Tab) (x : Str) : Bool := decide (T.sc.names.lookup x = some .globalImplicit) && ndb x
def frC (G : Gtab) (T : Tab) (x : Str) : Bool := glC T x && decide (x ∈ G.free)
def cstC (d : D) (e : PySem.Expr) : Bool := match e with
  | .Constant c _ _ => match d, c with
    | .non, .none => true
    | .bl b, .bool b' => b == b'
    | .int i, .int j => decide (i = j)
    | .str s, .str x => decide (x = ⟨s.toArray⟩) && (s.all (· < 0x110000) && decide (s.length ≤ lim))
    | _, _ => false
  | _ => false
def consC (G : Gtab) (i : Nat) (n : Str) (d : D) : Bool := match G.cons[i]? with
  | some (n', d') => decide (n = n') && (match d, d' with
    | .int a, .int b => decide (a = b)
    | .str a, .str b => decide (a = b)
    | _, _ => false)
  | none => false
def bm : Md → Md
  | .t => .t
  | _ => .v
def notSet : PySem.Expr → Bool
  | .Set _ _ _ => false
  | _ => true
def ixC : PySem.Expr → Bool
  | .Slice _ _ _ _ => false
  | _ => true
def isP : Md → Bool
  | .p => true
  | _ => false
def isT : Md → Bool
  | .t => true
  | _ => false
def p1N : P1 → Str
  | .abs => "abs"
  | .int => "int"
  | .len => "len"
  | .list => "list"
  | .tuple => "tuple"
  | .sum => "sum"
  | .all => "all"
  | .any => "any"
  | .repr => "repr"
  | _ => "sorted"
def p2N : P2 → Str
  | .divmod => "divmod"
  | .max => "max"
def kbC (G : Gtab) (f np : Nat) (kws : List Keyword) (pm : List Nat) : Bool := match kwNames kws with
  | some kn => G.kb.any fun q => decide (q.f = f) && (decide (q.np = np) && (decide (q.kn = kn) && decide (q.pm = pm)))
  | none => false
def tyC (G : Gtab) (T : Tab) : List Ty → PySem.Expr → Bool
  | [t], .Name n _ => tyOk t && (decide (n = tyN t) && frC G T n)
  | t :: ts, .Tuple xs _ _ => (t :: ts).all tyOk && (decide ((t :: ts).length ≤ 100) && (((t :: ts).all fun t => frC G T (tyN t)) && tysC (t :: ts) xs))
  | _, _ => false
where tysC : List Ty → List PySem.Expr → Bool
  | [], [] => true
  | t :: ts, .Name n _ :: xs => decide (n = tyN t) && tysC ts xs
  | _, _ => false
def ownOf (T : Tab) (t : Py.T) : List (Str × Nat) := (slotsT t).filterMap fun i => match T.nm[i]? with
  | some x => some (x, i)
  | none => none
def blkT (T : Tab) (scope : Scope) : Tab := ⟨T.nm, relS scope T.sc, false⟩
/-- a target of names -/
def chkN (T : Tab) : List Py.T → List PySem.Expr → Bool
  | [], [] => true
  | .n i :: ts, .Name x _ :: es => stC T i x && chkN T ts es
  | _, _ => false
def chkG (T : Tab) : Py.T → PySem.Expr → Bool
  | .n i, .Name x _ => stC T i x
  | .t ts, .Tuple es _ _ => chkN T ts es
  | _, _ => false
def isTup : PySem.Expr → Bool
  | .Tuple _ _ _ => true
  | _ => false
mutual
def chk (G : Gtab) : Tab → Md → E → PySem.Expr → Bool
  | T, _, .var i, e => (match e with
    | .Name x _ => visC T i x
    | _ => false)
  | T, _, .mov i, e => (match e with
    | .Name x _ => visC T i x
    | _ => false)
  | T, m, .bor i, e => isP m && (match e with
    | .Name x _ => visC T i x
    | _ => false)
  | _, _, .cst d, e => cstC d e
  | T, _, .gl i d, e => (match e with
    | .Name x _ => glC T x && consC G i x d
    | _ => false)
  | T, _, .bin o a b, e => (match e with
    | .BinOp l op r _ => decide (op = opOf o) && (chk G T .p a l && chk G T .p b r)
    | _ => false)
  | T, _, .neg a, e => (match e with
    | .UnaryOp .USub l _ => chk G T .v a l
    | _ => false)
  | T, _, .cmp o a b, e => (match e with
    | .Compare l [op] [r] _ => (decide (op = opC o) && !behindInMarks op r) && (chk G T .p a l && chk G T .p b r)
    | _ => false)
  | T, _, .chn o p a b c, e => (match e with
    | .Compare l [op, op2] [x, r] _ => (decide (op = opC o) && (decide (op2 = opC p) && !behindInMarks op2 r)) && (chk G T .v a l && (chk G T .v b x && chk G T .v c r))
    | _ => false)
  | T, m, .and es, e => (match e with
    | .BoolOp .And xs _ => !es.isEmpty && chkL G T (bm m) es xs
    | _ => false)
  | T, m, .or es, e => (match e with
    | .BoolOp .Or xs _ => !es.isEmpty && chkL G T (bm m) es xs
    | _ => false)
  | T, m, .not a, e => (match e with
    | .UnaryOp .Not x _ => chk G T (bm m) a x
    | _ => false)
  | T, m, .ite c a b, e => !isT m && (match e with
    | .IfExp t l r _ => chk G T .t c t && (chk G T .v a l && chk G T .v b r)
    | _ => false)
  | T, _, .tup es, e => (match e with
    | .Tuple xs _ _ => decide (es.length ≤ lim) && (xs.all nst && chkL G T .v es xs)
    | _ => false)
  | T, _, .lst es, e => (match e with
    | .List xs _ => decide (es.length ≤ lim) && (xs.all nst && chkL G T .v es xs)
    | _ => false)
  | _, _, .dct0, e => (match e with
    | .Dict [] [] _ => true
    | _ => false)
  | _, _, .no, _ => false
  | T, _, .idx a i, e => (match e with
    | .Subscript l r _ => ixC r && (chk G T .p a l && chk G T .v i r)
    | _ => false)
  | T, _, .slc a lo hi, e => (match e with
    | .Subscript l (.Slice el eh none _) _ => chk G T .p a l && ((match el with
      | none => isNo lo
      | some x => !isNo lo && chk G T .v lo x) && (match eh with
      | none => isNo hi
      | some x => !isNo hi && chk G T .v hi x))
    | _ => false)
  | T, _, .call f as pm, e => (match e with
    | .Call (.Name n _) es kws _ => (decide (G.fnm[f]? = some n) && (glC T n && es.all nst)) && (match pm with
      | [] => kws.isEmpty && chkA G T as es
      | j :: pm => kbC G f es.length kws (j :: pm) && chkK G T as es kws)
    | _ => false)
  | T, _, .p1 p a, e => (match e with
    | .Call (.Name n _) [x] [] _ => (p1Plain p && (decide (n = p1N p) && (frC G T n && (nst x && chk G T .p a x)))) || (match p, x with
      | .sortedSet, .Call (.Name n2 _) [y] [] _ => decide (n = ("sorted" : Str)) && (frC G T n && (decide (n2 = ("set" : Str)) && (frC G T n2 && (nst y && chk G T .p a y))))
      | _, _ => false)
    | _ => false)
  | T, _, .p2 p a b, e => (match e with
    | .Call (.Name n _) [x, y] [] _ => (decide (n = p2N p) && (frC G T n && (nst x && nst y))) && (chk G T .v a x && chk G T .v b y)
    | _ => false)
  | T, _, .isi a ts, e => (match e with
    | .Call (.Name n _) [x, y] [] _ => (decide (n = ("isinstance" : Str)) && (frC G T n && (nst x && tyC G T ts y))) && chk G T .v a x
    | _ => false)
  | T, _, .lc el t it cs, e => (match e with
    | .ListComp elt [⟨tg, iter, ifs, isa⟩] scope _ => (decide (isa = 0) && (notSet iter && (blkC T.nm T.sc scope (ownOf T t) && (decide ((ownOf T t).map (·.2) = slotsT t) && (chkG (blkT T scope) t tg && decide (cs.length ≤ 1)))))) &&
        (chkI G T tg it iter && (chkL G (blkT T scope) .t cs ifs && chk G (blkT T scope) .v el elt))
    | _ => false)
  | T, _, .app i a, e => (match e with
    | .Call (.Attribute (.Name n _) at' apos) [x] [] cpos => (decide (at' = ("append" : Str)) && (visC T i n && ((apos.endLine == cpos.line) && nst x))) && chk G T .v a x
    | _ => false)
  | T, _, .ext i a, e => (match e with
    | .Call (.Attribute (.Name n _) at' apos) [x] [] cpos => (decide (at' = ("extend" : Str)) && (visC T i n && ((apos.endLine == cpos.line) && nst x))) && chk G T .v a x
    | _ => false)
def chkL (G : Gtab) : Tab → Md → List E → List PySem.Expr → Bool
  | _, _, [], xs => xs.isEmpty
  | T, m, c :: cs, xs => (match xs with
    | x :: xs => chk G T m c x && chkL G T m cs xs
    | [] => false)
def chkA (G : Gtab) : Tab → List A → List PySem.Expr → Bool
  | _, [], xs => xs.isEmpty
  | T, a :: as, xs => (match xs with
    | x :: xs => chkA1 G T a x && chkA G T as xs
    | [] => false)
def chkA1 (G : Gtab) : Tab → A → PySem.Expr → Bool
  | T, .v c, x => chk G T .v c x
  | T, .r i, x => (match x with
    | .Name n _ => visC T i n
    | _ => false)
  | T, .o c, x => chk G T .v c x
def chkK (G : Gtab) : Tab → List A → List PySem.Expr → List Keyword → Bool
  | _, [], xs, kws => xs.isEmpty && kws.isEmpty
  | T, a :: as, xs, kws => (match xs with
    | x :: xs => chkV G T a x && chkK G T as xs kws
    | [] => (match kws with
      | ⟨_, x, _⟩ :: kws => chkV G T a x && chkK G T as [] kws
      | [] => false))
def chkV (G : Gtab) : Tab → A → PySem.Expr → Bool
  | T, .v c, x => chk G T .v c x
  | _, .r _, _ => false
  | _, .o _, _ => false
def chkI (G : Gtab) : Tab → PySem.Expr → Py.It → PySem.Expr → Bool
  | T, _, .e a, e => chk G T .v a e
  | T, _, .r1 a, e => (match e with
    | .Call (.Name n _) [x] [] _ => (decide (n = ("range" : Str)) && (frC G T n && nst x)) && chk G T .v a x
    | _ => false)
  | T, _, .r2 a b, e => (match e with
    | .Call (.Name n _) [x, y] [] _ => (decide (n = ("range" : Str)) && (frC G T n && (nst x && nst y))) && (chk G T .v a x && chk G T .v b y)
    | _ => false)
  | T, _, .r3 a b c, e => (match e with
    | .Call (.Name n _) [x, y, z] [] _ => (decide (n = ("range" : Str)) && (frC G T n && (nst x && (nst y && nst z)))) && (chk G T .v a x && (chk G T .v b y && chk G T .v c z))
    | _ => false)
  | T, tg, .en a, e => (match e with
    | .Call (.Name n _) [x] [] _ => (isTup tg && (decide (n = ("enumerate" : Str)) && (frC G T n && nst x))) && chk G T .v a x
    | _ => false)
  | T, tg, .zp a b, e => (match e with
    | .Call (.Name n _) [x, y] [] _ => (isTup tg && (decide (n = ("zip" : Str)) && (frC G T n && (nst x && nst y)))) && (chk G T .v a x && chk G T .v b y)
    | _ => false)
end

/-! ### what the check is worth -/
structure GOk (G : Gtab) (k : Nat) (P : Program) (w : World) (K : PySem.W.Frag) (mg : Str → Option Value) (base : Heap) (xr : ExR) (Φ : Sig) : Prop where
  free : ∀ x ∈ G.free, mg x = none
  cons : ∀ (i : Nat) (x : Str) (d : D), G.cons[i]? = some (x, d) → ∃ u v, mg x = some u ∧ constV d = some v ∧ L2.RelV v u
  fns : ∀ (f : Nat) (nm : Str), G.fnm[f]? = some nm → ∃ fa fd ps, mg nm = some (.ref fa) ∧ PySem.W.keepIn K (.ref fa) = true ∧ L2.Binds K fd ps [] ∧ FnG P w K mg base k fa fd ps (spOf K xr Φ f) ∧ ∀ q ∈ G.kb, q.f = f → KB fd ps q.np q.kn q.pm
structure Fit (G : Gtab) (T : Tab) (k : Nat) (X : Cx) (xr : ExR) (W : WX) (Φ : Sig) : Prop where
  x : XOk k X
  nm : X.N = T.nm
  sc : X.env.scope = T.sc
  fn : T.isDef = true → ∀ y, X.fn y = true
  tk : Takes X W
  g : GOk G k X.prog X.w X.K X.mg X.base xr Φ
def Sm (m : Md) (X : Cx) (xr : ExR) (W : WX) (Φ : Sig) (c : E) (e : PySem.Expr) : Prop := match m with
  | .v => PE X e (tR X.K xr W Φ c)
  | .p => PE X e (tP X.K xr W Φ c)
  | .t => PT X e (tT X.K xr W Φ c)
def Sms (m : Md) (X : Cx) (xr : ExR) (W : WX) (Φ : Sig) : List E → List PySem.Expr → Prop
  | [], [] => True
  | c :: cs, e :: es => Sm m X xr W Φ c e ∧ Sms m X xr W Φ cs es
  | _, _ => False
def plainT : PySem.Expr → Bool
  | .UnaryOp .Not _ _ => false
  | .BoolOp _ _ _ => false
  | .IfExp _ _ _ _ => false
  | .Compare _ _ _ _ => false
  | _ => true
theorem plainT_is {e : PySem.Expr} {env : PySem.Env} (h : plainT e = true) : ∀ whole, isTrue e env whole = (do let v ← whole; standAt e.pos; holding [v] (truthy v)) := by
  intro whole
  cases e with
  | UnaryOp op x p => cases op <;> first | rfl | cases h
  | BoolOp => cases h
  | IfExp => cases h
  | Compare => cases h
  | _ => rfl
section
variable {G : Gtab} {T : Tab} {X : Cx} {xr : ExR} {W : WX} {Φ : Sig} {k : Nat}
theorem Sm.of {m : Md} {c : E} {e : PySem.Expr} (h : PE X e (tR X.K xr W Φ c)) (hb : ∀ i, c ≠ .bor i) (ht : plainT e = true) : Sm m X xr W Φ c e := by
  cases m with
  | v => exact h
  | p => exact PE.p h hb
  | t => exact s_test h (plainT_is ht)
theorem vis_of (f : Fit G T k X xr W Φ) {i : Nat} {x : Str} (h : visC T i x = true) : X.N[i]? = some x ∧ Vis X.env.scope x ∧ (x == ("__debug__" : Str)) = false ∧ (x == ("__classdict__" : Str)) = false := by
  unfold visC ndb at h
  simp only [Bool.and_eq_true, decide_eq_true_eq, Bool.not_eq_true'] at h
  obtain ⟨h1, h2, h3, h4⟩ := h
  refine ⟨by rw [f.nm]; exact h1, ?_, h3, h4⟩
  rw [f.sc]
  unfold Vis
  unfold visK at h2
  split at h2
  · exact .inl (by assumption)
  · exact .inr (.inl (by assumption))
  · exact .inr (.inr (by assumption))
  · cases h2
theorem st_of (f : Fit G T k X xr W Φ) {i : Nat} {x : Str} (h : stC T i x = true) : X.N[i]? = some x ∧ StOk X x := by
  unfold stC at h
  simp only [Bool.and_eq_true, decide_eq_true_eq] at h
  obtain ⟨h1, h2⟩ := h
  refine ⟨by rw [f.nm]; exact h1, ?_⟩
  split at h2
  · rename_i e
    exact ⟨by rw [f.sc]; exact .inl e, .inr (by rw [f.sc]; exact e)⟩
  · rename_i e
    exact ⟨by rw [f.sc]; exact .inr e, .inl (f.fn h2 x)⟩
  · cases h2
theorem gl_of (f : Fit G T k X xr W Φ) {x : Str} (h : glC T x = true) : Gl X x ∧ (x == ("__debug__" : Str)) = false := by
  unfold glC ndb at h
  simp only [Bool.and_eq_true, decide_eq_true_eq, Bool.not_eq_true'] at h
  exact ⟨by unfold Gl PySem.Env.kindOf; rw [f.sc]; exact h.1, h.2.1⟩
theorem fr_of (f : Fit G T k X xr W Φ) {x : Str} (h : frC G T x = true) : Gl X x ∧ (x == ("__debug__" : Str)) = false ∧ X.mg x = none := by
  unfold frC at h
  simp only [Bool.and_eq_true, decide_eq_true_eq] at h
  obtain ⟨a, b⟩ := gl_of f h.1
  exact ⟨a, b, f.g.free x h.2⟩
theorem blk_fit (f : Fit G T k X xr W Φ) (s : Shared) (H : Hp) (scope : Scope) (cl : List (Str × Addr)) (C : Addr) (fp : List Addr) : Fit G (blkT T scope) k (X.blk s H scope (compEnvC scope cl C X.env) fp) xr (fun _ _ _ _ => False) Φ where
  x := ⟨f.x.calm, f.x.room, f.x.guards, f.x.nd⟩
  nm := f.nm
  sc := by
    show relS scope X.env.scope = relS scope T.sc
    rw [f.sc]
  fn := fun h => by cases h
  tk := takes0
  g := f.g
theorem cst_of {d : D} {e : PySem.Expr} (h : cstC d e = true) : ∃ v, constV d = some v ∧ PE X e (tC v) ∧ plainT e = true := by
  unfold cstC at h
  split at h
  · rename_i c i p
    split at h
    · exact ⟨.non, rfl, pe_non, rfl⟩
    · rename_i b b'
      have : b = b' := by simpa using h
      subst this
      exact ⟨.bl b, rfl, pe_bl, rfl⟩
    · rename_i i j
      have : i = j := by simpa using h
      subst this
      exact ⟨.int i, rfl, pe_int, rfl⟩
    · rename_i s x
      simp only [Bool.and_eq_true, decide_eq_true_eq] at h
      obtain ⟨rfl, h2⟩ := h
      refine ⟨.str ⟨s.toArray⟩, ?_, pe_str, rfl⟩
      dsimp only [constV]
      exact if_pos (by rw [Bool.and_eq_true, decide_eq_true_eq]; exact h2)
    · cases h
  · cases h
theorem cons_of (f : Fit G T k X xr W Φ) {i : Nat} {n : Str} {d : D} (h : consC G i n d = true) : ∃ u v, X.mg n = some u ∧ constV d = some v ∧ L2.RelV v u := by
  unfold consC at h
  split at h
  · rename_i n' d' e
    simp only [Bool.and_eq_true, decide_eq_true_eq] at h
    obtain ⟨rfl, h2⟩ := h
    split at h2
    · rename_i a b
      have : a = b := by simpa using h2
      subst this
      exact f.g.cons i _ _ e
    · rename_i a b
      have : a = b := by simpa using h2
      subst this
      exact f.g.cons i _ _ e
    · cases h2
  · cases h
theorem p1_boot {p : P1} (h : p1Plain p = true) : bootBuiltins (p1N p) = some (p1V p) ∧ p1N p ≠ ("__name__" : Str) := by
  cases p <;> first | (simp [p1Plain] at h; done) | exact ⟨by decide +kernel, by decide⟩
theorem p2_boot (p : P2) : bootBuiltins (p2N p) = some (p2V p) ∧ p2N p ≠ ("__name__" : Str) := by
  cases p <;> exact ⟨by decide +kernel, by decide⟩
theorem ix_of {r : PySem.Expr} (h : ixC r = true) : PlainIx r := by
  intro o i
  cases r <;> first | rfl | cases h
theorem set_of {e : PySem.Expr} {env : PySem.Env} (h : notSet e = true) : ∀ x, foldedSetIterable e env x = pure x := by
  intro x
  cases e <;> first | rfl | cases h
/-! lists of checked terms -/
theorem sms_d : ∀ {cs : List E} {es : List PySem.Expr}, Sms .v X xr W Φ cs es → es.all nst = true → PA X es (tLs X.K xr W Φ cs)
  | [], [], _, _ => s_nil
  | [], _ :: _, h, _ => h.elim
  | _ :: _, [], h, _ => h.elim
  | c :: cs, e :: es, ⟨h1, h2⟩, hs => by
    rw [List.all_cons, Bool.and_eq_true] at hs
    exact s_cons (PE.d h1) (sms_d h2 hs.2) (star_cons hs.1)
theorem sms_and {pos : Pos} : ∀ {cs : List E} {es : List PySem.Expr}, Sms .v X xr W Φ cs es → cs.isEmpty = false → PE X (.BoolOp .And es pos) (tAnd' X.K xr W Φ cs)
  | [], _, _, h => by cases h
  | _ :: _, [], h, _ => h.elim
  | [c], [e], ⟨h1, _⟩, _ => s_and1 h1
  | [c], _ :: _ :: _, ⟨_, h2⟩, _ => h2.elim
  | c :: c2 :: cs, [e], ⟨_, h2⟩, _ => h2.elim
  | c :: c2 :: cs, e :: e2 :: es, ⟨h1, h2⟩, _ => s_and h1 (sms_and h2 rfl)
theorem sms_or {pos : Pos} : ∀ {cs : List E} {es : List PySem.Expr}, Sms .v X xr W Φ cs es → cs.isEmpty = false → PE X (.BoolOp .Or es pos) (tOr' X.K xr W Φ cs)
  | [], _, _, h => by cases h
  | _ :: _, [], h, _ => h.elim
  | [c], [e], ⟨h1, _⟩, _ => s_or1 h1
  | [c], _ :: _ :: _, ⟨_, h2⟩, _ => h2.elim
  | c :: c2 :: cs, [e], ⟨_, h2⟩, _ => h2.elim
  | c :: c2 :: cs, e :: e2 :: es, ⟨h1, h2⟩, _ => s_or h1 (sms_or h2 rfl)
theorem sms_andT {pos : Pos} : ∀ {cs : List E} {es : List PySem.Expr}, Sms .t X xr W Φ cs es → cs.isEmpty = false → PW X (.BoolOp .And es pos) (tAndT X.K xr W Φ cs)
  | [], _, _, h => by cases h
  | _ :: _, [], h, _ => h.elim
  | [c], [e], ⟨h1, _⟩, _ => s_and1T h1
  | [c], _ :: _ :: _, ⟨_, h2⟩, _ => h2.elim
  | c :: c2 :: cs, [e], ⟨_, h2⟩, _ => h2.elim
  | c :: c2 :: cs, e :: e2 :: es, ⟨h1, h2⟩, _ => s_andT h1 (sms_andT h2 rfl)
theorem sms_orT {pos : Pos} : ∀ {cs : List E} {es : List PySem.Expr}, Sms .t X xr W Φ cs es → cs.isEmpty = false → PW X (.BoolOp .Or es pos) (tOrT X.K xr W Φ cs)
  | [], _, _, h => by cases h
  | _ :: _, [], h, _ => h.elim
  | [c], [e], ⟨h1, _⟩, _ => s_or1T h1
  | [c], _ :: _ :: _, ⟨_, h2⟩, _ => h2.elim
  | c :: c2 :: cs, [e], ⟨_, h2⟩, _ => h2.elim
  | c :: c2 :: cs, e :: e2 :: es, ⟨h1, h2⟩, _ => s_orT h1 (sms_orT h2 rfl)
theorem sms_t : ∀ {cs : List E} {es : List PySem.Expr}, Sms .t X xr W Φ cs es → cs.length ≤ 1 → PTs X es (tCs X.K xr W Φ cs)
  | [], [], _, _ => ts_nil
  | [], _ :: _, h, _ => h.elim
  | _ :: _, [], h, _ => h.elim
  | [c], [e], ⟨h1, _⟩, _ => ts_one h1
  | [c], _ :: _ :: _, ⟨_, h2⟩, _ => h2.elim
  | _ :: _ :: _, _ :: _, _, hl => by simp at hl
theorem tys_of {f : Fit G T k X xr W Φ} : ∀ {ts : List Ty} {xs : List PySem.Expr}, tyC.tysC ts xs = true → ∃ ps : List Pos, ps.length = ts.length ∧ xs = ts.zipWith (fun t p => PySem.Expr.Name (tyN t) p) ps
  | [], [], _ => ⟨[], rfl, rfl⟩
  | [], _ :: _, h => by cases h
  | t :: ts, [], h => by cases h
  | t :: ts, x :: xs, h => by
    cases x with
    | Name n p =>
      have h' : (decide (n = tyN t) && tyC.tysC ts xs) = true := h
      simp only [Bool.and_eq_true, decide_eq_true_eq] at h'
      obtain ⟨ps, h1, h2⟩ := tys_of (f := f) h'.2
      refine ⟨p :: ps, by rw [List.length_cons, List.length_cons, h1], ?_⟩
      rw [h'.1, h2]
      rfl
    | _ => cases h
theorem isi_of (f : Fit G T k X xr W Φ) {a : E} {ts : List Ty} {e y : PySem.Expr} {p0 pos : Pos} (hf : frC G T "isinstance" = true) (h : tyC G T ts y = true) (ha : PE X e (tR X.K xr W Φ a)) (hs : nst e = true) : PE X (.Call (.Name "isinstance" p0) [e, y] [] pos) (tR X.K xr W Φ (.isi a ts)) := by
  obtain ⟨g1, _, g3⟩ := fr_of f hf
  unfold tyC at h
  split at h
  · rename_i t n p
    simp only [Bool.and_eq_true, decide_eq_true_eq] at h
    obtain ⟨h1, rfl, h3⟩ := h
    obtain ⟨b1, _, b3⟩ := fr_of f h3
    exact s_isi1 h1 g1 g3 b1 b3 (PE.d ha) hs
  · rename_i t ts xs kk p _
    simp only [Bool.and_eq_true, decide_eq_true_eq] at h
    obtain ⟨h1, h2, h3, h4⟩ := h
    obtain ⟨ps, l, rfl⟩ := tys_of (f := f) h4
    refine s_isiT h1 l h2 (fun t' ht' => ?_) g1 g3 (PE.d ha) hs
    obtain ⟨b1, _, b3⟩ := fr_of f (List.all_eq_true.mp h3 t' ht')
    exact ⟨b1, b3⟩
  · cases h
theorem tgs_of (f : Fit G T k X xr W Φ) : ∀ {ts : List Py.T} {es : List PySem.Expr}, chkN T ts es = true → PGs X es (tGs X.K ts) ∧ allNm es = true ∧ es.length = ts.length
  | [], [], _ => ⟨g_nil, rfl, rfl⟩
  | [], _ :: _, h => by cases h
  | t :: ts, es, h => by
    cases t with
    | n i =>
      cases es with
      | nil => cases h
      | cons e es =>
        cases e with
        | Name x p =>
          have h' : (stC T i x && chkN T ts es) = true := h
          rw [Bool.and_eq_true] at h'
          obtain ⟨a, b⟩ := st_of f h'.1
          obtain ⟨c, d, l⟩ := tgs_of f h'.2
          exact ⟨g_cons f.x.nd a b c, d, by rw [List.length_cons, List.length_cons, l]⟩
        | _ => cases h
    | _ => cases es <;> cases h
theorem tg_of (f : Fit G T k X xr W Φ) {t : Py.T} {e : PySem.Expr} (h : chkG T t e = true) : PG X e (tG X.K t) := by
  unfold chkG at h
  split at h
  · obtain ⟨a, b⟩ := st_of f h
    exact g_n f.x.nd a b
  · obtain ⟨a, b, c⟩ := tgs_of f h
    exact g_t f.x.calm b c a
  · cases h
end
end Py

/-! Chk2: what the check has passed keeps what the evaluator says: expressions. -/
namespace Py
open PySem PySem.Spec PyProof.Rows L2
section
variable {G : Gtab} {k : Nat} {xr : ExR} {Φ : Sig}
theorem nb1 {c : E} (h : ∀ i, c ≠ .bor i) : ∀ i, c ≠ .bor i := h
theorem as_len {X : Cx} {W : WX} : ∀ {cs : List E}, True := fun {_} => True.intro
mutual
theorem ok (c : E) {T : Tab} {m : Md} {e : PySem.Expr} {X : Cx} {W : WX} (h : chk G T m c e = true) (f : Fit G T k X xr W Φ) : Sm m X xr W Φ c e := by
  match c with
  | .var i =>
    unfold chk at h
    split at h
    · obtain ⟨a, b, c, d⟩ := vis_of f h
      exact Sm.of (s_var a b c d) (fun _ z => nomatch z) rfl
    · cases h
  | .mov i =>
    unfold chk at h
    split at h
    · obtain ⟨a, b, c, d⟩ := vis_of f h
      exact Sm.of (s_mov a b c d) (fun _ z => nomatch z) rfl
    · cases h
  | .bor i =>
    unfold chk at h
    rw [Bool.and_eq_true] at h
    obtain ⟨hm, h⟩ := h
    split at h
    · obtain ⟨a, b, c, d⟩ := vis_of f h
      cases m with
      | p => exact s_bor a b c d
      | _ => cases hm
    · cases h
  | .cst d =>
    unfold chk at h
    obtain ⟨v, a, b, c⟩ := cst_of (X := X) h
    exact Sm.of (s_tc (fun env => rfl) a b) (fun _ z => nomatch z) c
  | .gl i d =>
    unfold chk at h
    split at h
    · rw [Bool.and_eq_true] at h
      obtain ⟨a, b⟩ := gl_of f h.1
      obtain ⟨u, v, c, d, e⟩ := cons_of f h.2
      exact Sm.of (s_tc (fun env => rfl) d (pe_glob a c e b)) (fun _ z => nomatch z) rfl
    · cases h
  | .bin o a b =>
    unfold chk at h
    split at h
    · simp only [Bool.and_eq_true, decide_eq_true_eq] at h
      obtain ⟨rfl, h1, h2⟩ := h
      exact Sm.of (s_bin (ok a h1 f) (ok b h2 f)) (fun _ z => nomatch z) rfl
    · cases h
  | .neg a =>
    unfold chk at h
    split at h
    · exact Sm.of (s_neg (PE.d (ok a h f))) (fun _ z => nomatch z) rfl
    · cases h
  | .cmp o a b =>
    unfold chk at h
    split at h
    · simp only [Bool.and_eq_true, decide_eq_true_eq, Bool.not_eq_true'] at h
      obtain ⟨⟨rfl, hb⟩, h1, h2⟩ := h
      have x1 := ok a h1 f
      have x2 := ok b h2 f
      cases m with
      | v => exact s_cmp f.x x1 x2 hb
      | p => exact PE.p (s_cmp f.x x1 x2 hb) (fun _ z => nomatch z)
      | t => exact s_cmpT f.x x1 x2 hb
    · cases h
  | .chn o p a b c =>
    unfold chk at h
    split at h
    · simp only [Bool.and_eq_true, decide_eq_true_eq, Bool.not_eq_true'] at h
      obtain ⟨⟨rfl, rfl, hb⟩, h1, h2, h3⟩ := h
      have x1 := PE.d (ok a h1 f)
      have x2 := PE.d (ok b h2 f)
      have x3 := PE.d (ok c h3 f)
      cases m with
      | v => exact s_chn f.x x1 x2 x3 hb
      | p => exact PE.p (s_chn f.x x1 x2 x3 hb) (fun _ z => nomatch z)
      | t => exact s_chnT f.x x1 x2 x3 hb
    · cases h
  | .and es =>
    unfold chk at h
    split at h
    · simp only [Bool.and_eq_true, Bool.not_eq_true'] at h
      cases m with
      | v => exact pe_imp (sms_and (okL es h.2 f) h.1) fun σ H Q ⟨F, env, r, q⟩ => ⟨F, env, r, q⟩
      | p =>
        refine PE.p (c := .and es) ?_ (fun _ z => nomatch z)
        exact pe_imp (sms_and (okL (m := .v) es h.2 f) h.1) fun σ H Q ⟨F, env, r, q⟩ => ⟨F, env, r, q⟩
      | t => exact (pw_imp (sms_andT (okL es h.2 f) h.1) fun σ H Q ⟨F, env, r, q⟩ => ⟨F, env, r, q⟩).pt
    · cases h
  | .or es =>
    unfold chk at h
    split at h
    · simp only [Bool.and_eq_true, Bool.not_eq_true'] at h
      cases m with
      | v => exact pe_imp (sms_or (okL es h.2 f) h.1) fun σ H Q ⟨F, env, r, q⟩ => ⟨F, env, r, q⟩
      | p =>
        refine PE.p (c := .or es) ?_ (fun _ z => nomatch z)
        exact pe_imp (sms_or (okL (m := .v) es h.2 f) h.1) fun σ H Q ⟨F, env, r, q⟩ => ⟨F, env, r, q⟩
      | t => exact (pw_imp (sms_orT (okL es h.2 f) h.1) fun σ H Q ⟨F, env, r, q⟩ => ⟨F, env, r, q⟩).pt
    · cases h
  | .not a =>
    unfold chk at h
    split at h
    · cases m with
      | v => exact s_not (ok (m := .v) a h f)
      | p => exact PE.p (s_not (ok (m := .v) a h f)) (fun _ z => nomatch z)
      | t => exact s_notT (ok (m := .t) a h f)
    · cases h
  | .ite c a b =>
    unfold chk at h
    rw [Bool.and_eq_true] at h
    obtain ⟨hm, h⟩ := h
    split at h
    · simp only [Bool.and_eq_true] at h
      cases m with
      | v => exact s_ite (ok (m := .t) c h.1 f) (ok (m := .v) a h.2.1 f) (ok (m := .v) b h.2.2 f)
      | p => exact PE.p (s_ite (ok (m := .t) c h.1 f) (ok (m := .v) a h.2.1 f) (ok (m := .v) b h.2.2 f)) (fun _ z => nomatch z)
      | t => cases hm
    · cases h
  | .tup es =>
    unfold chk at h
    split at h
    · simp only [Bool.and_eq_true, decide_eq_true_eq] at h
      exact Sm.of (s_tup h.1 (sms_d (okL es h.2.2 f) h.2.1)) (fun _ z => nomatch z) rfl
    · cases h
  | .lst es =>
    unfold chk at h
    split at h
    · simp only [Bool.and_eq_true, decide_eq_true_eq] at h
      exact Sm.of (s_lst h.1 (sms_d (okL es h.2.2 f) h.2.1)) (fun _ z => nomatch z) rfl
    · cases h
  | .dct0 =>
    unfold chk at h
    split at h
    · exact Sm.of s_dct0 (fun _ z => nomatch z) rfl
    · cases h
  | .no =>
    unfold chk at h
    cases h
  | .idx a i =>
    unfold chk at h
    split at h
    · simp only [Bool.and_eq_true] at h
      exact Sm.of (s_idx (ok a h.2.1 f) (PE.d (ok i h.2.2 f)) (ix_of h.1)) (fun _ z => nomatch z) rfl
    · cases h
  | .slc a lo hi =>
    unfold chk at h
    split at h
    · simp only [Bool.and_eq_true] at h
      obtain ⟨h1, h2, h3⟩ := h
      have bd : ∀ (c : E) (x : Option PySem.Expr), (match x with
          | none => isNo c
          | some x => !isNo c && chk G T .v c x) = true → (∀ x, chk G T .v c x = true → PE X x (tR X.K xr W Φ c)) → PO X x (tBd X.K xr W Φ c) := fun c x hx hok => by
        cases x with
        | none =>
          have hx' : isNo c = true := hx
          have : c = .no := by cases c <;> first | rfl | cases hx'
          subst this
          exact po_no
        | some y =>
          simp only [Bool.and_eq_true, Bool.not_eq_true'] at hx
          exact po_yes hx.1 (PE.d (hok y hx.2))
      exact Sm.of (s_slc (ok a h1 f) (bd lo _ h2 fun x hx => ok lo hx f) (bd hi _ h3 fun x hx => ok hi hx f)) (fun _ z => nomatch z) rfl
    · cases h
  | .call g as pm =>
    unfold chk at h
    split at h
    · rename_i n p es kws q
      simp only [Bool.and_eq_true, decide_eq_true_eq] at h
      obtain ⟨⟨h1, h2, h3⟩, h4⟩ := h
      obtain ⟨gl, db⟩ := gl_of f h2
      obtain ⟨fa, fd, ps, m1, m2, m3, m4, m5⟩ := f.g.fns g n h1
      refine Sm.of ?_ (fun _ z => nomatch z) rfl
      cases pm with
      | nil =>
        simp only [Bool.and_eq_true] at h4
        obtain ⟨h5, h6⟩ := h4
        have : kws = [] := by cases kws <;> first | rfl | cases h5
        subst this
        have z := okA as h6 f h3
        cases es with
        | nil =>
          have : as = [] := by
            cases as with
            | nil => rfl
            | cons a as => unfold chkA at h6; cases h6
          subst this
          exact s_call0 f.x m4 f.tk gl m1 m2 m3 db
        | cons e es => exact s_call f.x m4 f.tk gl m1 m2 m3 db z h3
      | cons j pm =>
        simp only [Bool.and_eq_true] at h4
        obtain ⟨h5, h6⟩ := h4
        obtain ⟨cs, cs2, rfl, l1, l2, z1, z2⟩ := okK as h6 f h3
        unfold kbC at h5
        split at h5
        · rename_i kn ek
          rw [List.any_eq_true] at h5
          obtain ⟨qq, hq, h7⟩ := h5
          simp only [Bool.and_eq_true, decide_eq_true_eq] at h7
          obtain ⟨q1, q2, q3, q4⟩ := h7
          have kb := m5 qq hq q1
          rw [q2, q3, q4] at kb
          have kl : ∀ {kws : List Keyword} {kn : List Str}, kwNames kws = some kn → kn.length = kws.length := by
            intro kws
            induction kws with
            | nil => intro kn h; cases h; rfl
            | cons a kws ih =>
              intro kn h
              obtain ⟨nm, v, p⟩ := a
              cases nm with
              | none => cases h
              | some nm =>
                unfold kwNames at h
                cases q : kwNames kws with
                | none => rw [q] at h; cases h
                | some ns => rw [q] at h; cases h; rw [List.length_cons, List.length_cons, ih q]
          exact s_callK f.x m4 f.tk gl m1 m2 (by rw [l1]; exact kb) db ek (by rw [l2, kl ek]) z1 z2 h3 (fun e => by
            subst e
            exact List.eq_nil_of_length_eq_zero l1)
        · cases h5
    · cases h
  | .p1 p a =>
    unfold chk at h
    split at h
    · rw [Bool.or_eq_true] at h
      rcases h with h | h
      · simp only [Bool.and_eq_true, decide_eq_true_eq] at h
        obtain ⟨h1, rfl, h3, h4, h5⟩ := h
        obtain ⟨a1, a2, a3⟩ := fr_of f h3
        obtain ⟨b1, b2⟩ := p1_boot h1
        exact Sm.of (s_p1 f.x h1 a1 a3 b1 b2 a2 (ok a h5 f) h4) (fun _ z => nomatch z) rfl
      · split at h
        · simp only [Bool.and_eq_true, decide_eq_true_eq] at h
          obtain ⟨rfl, h2, rfl, h4, h5, h6⟩ := h
          obtain ⟨a1, _, a3⟩ := fr_of f h2
          obtain ⟨b1, _, b3⟩ := fr_of f h4
          exact Sm.of (s_ss f.x a1 a3 b1 b3 (ok a h6 f) h5) (fun _ z => nomatch z) rfl
        · cases h
    · cases h
  | .p2 p a b =>
    unfold chk at h
    split at h
    · simp only [Bool.and_eq_true, decide_eq_true_eq] at h
      obtain ⟨⟨rfl, h3, h4, h5⟩, h6, h7⟩ := h
      obtain ⟨a1, a2, a3⟩ := fr_of f h3
      obtain ⟨b1, b2⟩ := p2_boot p
      exact Sm.of (s_p2 f.x a1 a3 b1 b2 a2 (PE.d (ok a h6 f)) (PE.d (ok b h7 f)) h4 h5) (fun _ z => nomatch z) rfl
    · cases h
  | .isi a ts =>
    unfold chk at h
    split at h
    · simp only [Bool.and_eq_true, decide_eq_true_eq] at h
      obtain ⟨⟨rfl, h3, h4, h5⟩, h6⟩ := h
      exact Sm.of (isi_of f h3 h5 (ok a h6 f) h4) (fun _ z => nomatch z) rfl
    · cases h
  | .lc el t it cs =>
    unfold chk at h
    split at h
    · rename_i elt tg iter ifs isa scope lp
      simp only [Bool.and_eq_true, decide_eq_true_eq] at h
      obtain ⟨⟨rfl, h2, h3, h4, h5, h6⟩, h7, h8, h9⟩ := h
      have bo : BlkOk X.N X.env.scope scope (ownOf T t) := by rw [f.nm, f.sc]; exact blkOk_by h3
      have hi := okI it h7 f
      have hg := fun s H C cl fp => tg_of (blk_fit f s H scope cl C fp) h5
      have ht := fun s H C cl fp => sms_t (okL (m := .t) cs h8 (blk_fit f s H scope cl C fp)) h6
      have he := fun s H C cl fp => PE.d (ok (m := .v) el h9 (blk_fit f s H scope cl C fp))
      exact Sm.of (pe_imp (pe_lc f.x.calm f.x.nd hi bo hg ht he (set_of h2)) (s_lc f.x hi bo h4 hg ht he)) (fun _ z => nomatch z) rfl
    · cases h
  | .app i a =>
    unfold chk at h
    split at h
    · simp only [Bool.and_eq_true, decide_eq_true_eq] at h
      obtain ⟨⟨rfl, h2, h3, h4⟩, h5⟩ := h
      obtain ⟨a1, a2, a3, a4⟩ := vis_of f h2
      exact Sm.of (s_app a1 a2 a3 a4 (PE.d (ok a h5 f)) h4 h3) (fun _ z => nomatch z) rfl
    · cases h
  | .ext i a =>
    unfold chk at h
    split at h
    · simp only [Bool.and_eq_true, decide_eq_true_eq] at h
      obtain ⟨⟨rfl, h2, h3, h4⟩, h5⟩ := h
      obtain ⟨a1, a2, a3, a4⟩ := vis_of f h2
      exact Sm.of (s_ext a1 a2 a3 a4 (PE.d (ok a h5 f)) h4 h3) (fun _ z => nomatch z) rfl
    · cases h
theorem okL (cs : List E) {T : Tab} {m : Md} {es : List PySem.Expr} {X : Cx} {W : WX} (h : chkL G T m cs es = true) (f : Fit G T k X xr W Φ) : Sms m X xr W Φ cs es := by
  match cs with
  | [] =>
    unfold chkL at h
    have : es = [] := by cases es <;> first | rfl | cases h
    subst this
    exact True.intro
  | c :: cs =>
    unfold chkL at h
    split at h
    · rw [Bool.and_eq_true] at h
      exact ⟨ok c h.1 f, okL cs h.2 f⟩
    · cases h
theorem okA (as : List A) {T : Tab} {es : List PySem.Expr} {X : Cx} {W : WX} (h : chkA G T as es = true) (f : Fit G T k X xr W Φ) (hs : es.all nst = true) : PA X es (tAs X.K xr W Φ as) := by
  match as with
  | [] =>
    unfold chkA at h
    have : es = [] := by cases es <;> first | rfl | cases h
    subst this
    exact as_nil
  | a :: as =>
    unfold chkA at h
    split at h
    · rw [Bool.and_eq_true] at h
      rw [List.all_cons, Bool.and_eq_true] at hs
      exact as_cons (okA1 a h.1 f) (okA as h.2 f hs.2) hs.1
    · cases h
theorem okA1 (a : A) {T : Tab} {e : PySem.Expr} {X : Cx} {W : WX} (h : chkA1 G T a e = true) (f : Fit G T k X xr W Φ) : PE X e (tA1 X.K xr W Φ a) := by
  match a with
  | .v c =>
    unfold chkA1 at h
    exact a_v (PE.d (ok (m := .v) c h f))
  | .r i =>
    unfold chkA1 at h
    split at h
    · obtain ⟨a1, a2, a3, a4⟩ := vis_of f h
      exact a_r a1 a2 a3 a4
    · cases h
  | .o c =>
    unfold chkA1 at h
    exact a_o (ok (m := .v) c h f)
theorem okK (as : List A) {T : Tab} {es : List PySem.Expr} {kws : List Keyword} {X : Cx} {W : WX} (h : chkK G T as es kws = true) (f : Fit G T k X xr W Φ) (hs : es.all nst = true) : ∃ cs cs2 : List E, as = (cs ++ cs2).map A.v ∧ cs.length = es.length ∧ cs2.length = kws.length ∧ PA X es (tLs X.K xr W Φ cs) ∧ PK X kws (tLs X.K xr W Φ cs2) := by
  match as with
  | [] =>
    unfold chkK at h
    rw [Bool.and_eq_true] at h
    have e1 : es = [] := by cases es <;> first | rfl | cases h.1
    have e2 : kws = [] := by cases kws <;> first | rfl | cases h.2
    subst e1 e2
    exact ⟨[], [], rfl, rfl, rfl, s_nil, k_nil⟩
  | a :: as =>
    unfold chkK at h
    split at h
    · rw [Bool.and_eq_true] at h
      rw [List.all_cons, Bool.and_eq_true] at hs
      obtain ⟨c, rfl, hc⟩ := okV a h.1 f
      obtain ⟨cs, cs2, rfl, l1, l2, z1, z2⟩ := okK as h.2 f hs.2
      exact ⟨c :: cs, cs2, rfl, by rw [List.length_cons, List.length_cons, l1], l2, s_cons (PE.d hc) z1 (star_cons hs.1), z2⟩
    · split at h
      · rw [Bool.and_eq_true] at h
        obtain ⟨c, rfl, hc⟩ := okV a h.1 f
        obtain ⟨cs, cs2, rfl, l1, l2, z1, z2⟩ := okK as h.2 f rfl
        have : cs = [] := List.eq_nil_of_length_eq_zero l1
        subst this
        exact ⟨[], c :: cs2, rfl, rfl, by rw [List.length_cons, List.length_cons, l2], s_nil, k_cons (PE.d hc) z2⟩
      · cases h
theorem okV (a : A) {T : Tab} {e : PySem.Expr} {X : Cx} {W : WX} (h : chkV G T a e = true) (f : Fit G T k X xr W Φ) : ∃ c, a = .v c ∧ PE X e (tR X.K xr W Φ c) := by
  match a with
  | .v c =>
    unfold chkV at h
    exact ⟨c, rfl, ok (m := .v) c h f⟩
  | .r i => unfold chkV at h; cases h
  | .o c => unfold chkV at h; cases h
theorem okI (it : Py.It) {T : Tab} {tg e : PySem.Expr} {X : Cx} {W : WX} (h : chkI G T tg it e = true) (f : Fit G T k X xr W Φ) : PI X tg e (tI X.K xr W Φ it) := by
  match it with
  | .e a =>
    unfold chkI at h
    exact pi_src (PE.d (ok (m := .v) a h f))
  | .r1 a =>
    unfold chkI at h
    split at h
    · simp only [Bool.and_eq_true, decide_eq_true_eq] at h
      obtain ⟨⟨rfl, h2, h3⟩, h4⟩ := h
      obtain ⟨a1, _, a3⟩ := fr_of f h2
      exact pi_r1 a1 a3 (PE.d (ok (m := .v) a h4 f)) h3
    · cases h
  | .r2 a b =>
    unfold chkI at h
    split at h
    · simp only [Bool.and_eq_true, decide_eq_true_eq] at h
      obtain ⟨⟨rfl, h2, h3, h4⟩, h5, h6⟩ := h
      obtain ⟨a1, _, a3⟩ := fr_of f h2
      exact pi_r2 a1 a3 (PE.d (ok (m := .v) a h5 f)) (PE.d (ok (m := .v) b h6 f)) h3 h4
    · cases h
  | .r3 a b c =>
    unfold chkI at h
    split at h
    · simp only [Bool.and_eq_true, decide_eq_true_eq] at h
      obtain ⟨⟨rfl, h2, h3, h4, h5⟩, h6, h7, h8⟩ := h
      obtain ⟨a1, _, a3⟩ := fr_of f h2
      exact pi_r3 a1 a3 (PE.d (ok (m := .v) a h6 f)) (PE.d (ok (m := .v) b h7 f)) (PE.d (ok (m := .v) c h8 f)) h3 h4 h5
    · cases h
  | .en a =>
    unfold chkI at h
    split at h
    · simp only [Bool.and_eq_true, decide_eq_true_eq] at h
      obtain ⟨⟨h1, rfl, h2, h3⟩, h4⟩ := h
      obtain ⟨a1, _, a3⟩ := fr_of f h2
      cases tg with
      | Tuple elts kk tpos => exact pi_en a1 a3 (PE.d (ok (m := .v) a h4 f)) h3
      | _ => cases h1
    · cases h
  | .zp a b =>
    unfold chkI at h
    split at h
    · simp only [Bool.and_eq_true, decide_eq_true_eq] at h
      obtain ⟨⟨h1, rfl, h2, h3, h4⟩, h5, h6⟩ := h
      obtain ⟨a1, _, a3⟩ := fr_of f h2
      cases tg with
      | Tuple elts kk tpos => exact pi_zp a1 a3 (PE.d (ok (m := .v) a h5 f)) (PE.d (ok (m := .v) b h6 f)) h3 h4
      | _ => cases h1
    · cases h
end
end
end Py

/-! Chk3: the check and its soundness: statements. -/
namespace Py
open PySem PySem.Spec PyProof.Rows L2

def noComp : PySem.Expr → Bool
  | .ListComp _ _ _ _ => false
  | .SetComp _ _ _ _ => false
  | .DictComp _ _ _ _ _ => false
  | _ => true
theorem sw1 {elt : PySem.Expr} {gs : List Comprehension} {scope : Scope} {pos py : Pos} {y : Str} {l : Nat} {env : PySem.Env} : swapsWith (.ListComp elt gs scope pos) (some (.Name y py)) l env = pure (env.blockKind == .function && env.kindOf y == some .local && py.line == pos.line && !(scope.names.any fun (n, k) => n == y && (k == .local || k == .cell))) := rfl
theorem sw0 {e : PySem.Expr} {t : Option PySem.Expr} {l : Nat} {env : PySem.Env} (h : noComp e = true) : swapsWith e t l env = pure false := by
  cases e <;> first | rfl | cases h
theorem sw2 {e o i : PySem.Expr} {p : Pos} {l : Nat} {env : PySem.Env} : swapsWithSole [.Subscript o i p] e l env = pure false := by
  cases e <;> rfl
theorem sw3 {e : PySem.Expr} {es : List PySem.Expr} {k l : Nat} {p : Pos} {env : PySem.Env} : swapsWithSole [.Tuple es k p] e l env = pure false := by
  cases e <;> rfl
theorem ss1 {e o i : PySem.Expr} {p : Pos} {env : PySem.Env} : swappedStores [.Subscript o i p] e env = pure none := by
  cases e <;> rfl
theorem ss2 {e : PySem.Expr} {es : List PySem.Expr} {k : Nat} {p : Pos} {env : PySem.Env} (h : isTup e = false) : swappedStores [.Tuple es k p] e env = pure none := by
  cases e <;> first | rfl | cases h
theorem as1 {o e : PySem.Expr} {pos : Pos} {env : PySem.Env} (h : ixC e = true) : ∀ v, assign (.Subscript o e pos) env v = (do
      let ov ← holding [v] (eval o env)
      let iv ← holding [v, ov] (eval e env)
      standAt pos
      holding [v, ov, iv] (setItem ov iv v)
      release [v, ov, iv] []) := by
  intro v
  cases e <;> first | rfl | cases h
theorem s1 (e : PySem.Expr) : nst e = true → (match e with | .Starred .. => true | _ => false) = false := by
  intro h; cases e <;> first | rfl | cases h
theorem ss3 {x y : Str} {px py pt pt2 : Pos} {kt k2 : Nat} {a b : PySem.Expr} {env : PySem.Env} (hb : env.blockKind = .function) (hx : env.kindOf x = some .local) (hy : env.kindOf y = some .local) (hl : py.line = px.line) (hxy : x ≠ y)
    (ha : nst a = true) (hb2 : nst b = true) (h1 : [a, b].all (foldedForSure 8) = false) (h2 : [a, b].all (constantsAlone 8) = false) :
    swappedStores [.Tuple [.Name x px, .Name y py] kt pt] (.Tuple [a, b] k2 pt2) env = pure (some [x, y]) := by
  have e1 : ([x, y] : List Str).eraseDups = [x, y] := by
    have : (y == x) = false := by simpa using fun z => hxy (Eq.symm z)
    simp [List.eraseDups, List.eraseDupsBy, List.eraseDupsBy.loop, this]
  unfold swappedStores
  simp [hb, hx, hy, hl, Expr.pos, h1, h2, e1]
  rintro (h | h)
  · exact absurd ((s1 a ha).symm.trans h) (by decide)
  · exact absurd ((s1 b hb2).symm.trans h) (by decide)
theorem ss4 {x y z : Str} {px py pz pt pt2 : Pos} {kt k2 : Nat} {a b c : PySem.Expr} {env : PySem.Env} (hb : env.blockKind = .function) (hx : env.kindOf x = some .local) (hy : env.kindOf y = some .local) (hz : env.kindOf z = some .local) (hl : py.line = px.line) (hl2 : pz.line = px.line) (hxy : x ≠ y) (hxz : x ≠ z) (hyz : y ≠ z)
    (ha : nst a = true) (hb2 : nst b = true) (hc2 : nst c = true) (h1 : [a, b, c].all (foldedForSure 8) = false) (h2 : [a, b, c].all (constantsAlone 8) = false) :
    swappedStores [.Tuple [.Name x px, .Name y py, .Name z pz] kt pt] (.Tuple [a, b, c] k2 pt2) env = pure (some [x, y, z]) := by
  have e1 : ([x, y, z] : List Str).eraseDups = [x, y, z] := by
    have q1 : (y == x) = false := by simpa using fun z => hxy (Eq.symm z)
    have q2 : (z == x) = false := by simpa using fun z => hxz (Eq.symm z)
    have q3 : (z == y) = false := by simpa using fun z => hyz (Eq.symm z)
    simp [List.eraseDups, List.eraseDupsBy, List.eraseDupsBy.loop, q1, q2, q3]
  unfold swappedStores
  simp [hb, hx, hy, hz, hl, hl2, Expr.pos, h1, h2, e1]
  rintro (h | h | h)
  · exact absurd ((s1 a ha).symm.trans h) (by decide)
  · exact absurd ((s1 b hb2).symm.trans h) (by decide)
  · exact absurd ((s1 c hc2).symm.trans h) (by decide)

/-! ### the check -/
def locC (T : Tab) (i : Nat) (x : Str) : Bool := decide (T.nm[i]? = some x) && decide (T.sc.names.lookup x = some .local)
def noIn (io : List Nat) (i : Nat) : Bool := decide (i ∉ io)
/-- name = [..] on one line -/
def swB (T : Tab) (x : Str) (p : Pos) : PySem.Expr → Bool
  | .ListComp _ _ scope lp => decide (T.sc.names.lookup x = some .local) && (p.line == lp.line && !(scope.names.any fun (n, k) => n == x && (k == .local || k == .cell)))
  | _ => false
def okC : PySem.Expr → Bool
  | .SetComp _ _ _ _ => false
  | .DictComp _ _ _ _ _ => false
  | _ => true
def chkU (G : Gtab) (T : Tab) (io : List Nat) : Py.T → PySem.Expr → Bool
  | .n i, .Name x _ => stC T i x && noIn io i
  | .s i k, .Subscript (.Name x _) e _ => visC T i x && (ixC e && chk G T .v k e)
  | _, _ => false
def chkUs (G : Gtab) (T : Tab) (io : List Nat) : List Py.T → List PySem.Expr → Bool
  | [], [] => true
  | t :: ts, e :: es => chkU G T io t e && chkUs G T io ts es
  | _, _ => false
def chkPar (G : Gtab) (T : Tab) (io : List Nat) : List (Bool × Nat) → List E → List PySem.Expr → List PySem.Expr → Bool
  | [(_, i), (_, j)], cs, [.Name x px, .Name y py], [a, b] => (locC T i x && (locC T j y && (noIn io i && noIn io j))) && ((decide (i ≠ j) && (decide (x ≠ y) && decide (py.line = px.line))) && ((nst a && nst b) && ((!([a, b].all (foldedForSure 8)) && !([a, b].all (constantsAlone 8))) && (decide (cs.length = 2) && chkL G T .v cs [a, b]))))
  | [(_, i), (_, j), (_, l)], cs, [.Name x px, .Name y py, .Name z pz], [a, b, c] => (locC T i x && (locC T j y && (locC T l z && (noIn io i && (noIn io j && noIn io l))))) && ((decide (i ≠ j) && (decide (i ≠ l) && (decide (j ≠ l) && (decide (x ≠ y) && (decide (x ≠ z) && (decide (y ≠ z) && (decide (py.line = px.line) && decide (pz.line = px.line)))))))) &&
      ((nst a && (nst b && nst c)) && ((!([a, b, c].all (foldedForSure 8)) && !([a, b, c].all (constantsAlone 8))) && (decide (cs.length = 3) && chkL G T .v cs [a, b, c]))))
  | _, _, _, _ => false
mutual
def chkS (G : Gtab) (T : Tab) (io : List Nat) : S → Stmt → Bool
  | .pas, s => (match s with
    | .Pass _ => true
    | _ => false)
  | .expr c, s => (match s with
    | .Expr e _ => noComp e && chk G T .v c e
    | _ => false)
  | .asg _ t c, s => (match s with
    | .Assign [tg] e _ => chk G T .v c e && (match t, tg with
      | .n i, .Name x _ => okC e && (stC T i x && noIn io i)
      | .s i k, .Subscript a b p => chkU G T io (.s i k) (.Subscript a b p)
      | .t ts, .Tuple es _ _ => !isTup e && chkUs G T io ts es
      | _, _ => false)
    | _ => false)
  | .par ws cs, s => (match s with
    | .Assign [.Tuple es _ _] (.Tuple xs _ _) _ => chkPar G T io ws cs es xs
    | _ => false)
  | .ret _ c, s => (match s with
    | .Return (some e) _ => chk G T .v c e
    | _ => false)
  | .ifs c a b, s => (match s with
    | .If e as bs _ => chk G T .t c e && (chkSs G T io a as && chkSs G T io b bs)
    | _ => false)
  | .whl c b, s => (match s with
    | .While e bs [] _ => chk G T .t c e && chkSs G T io b bs
    | _ => false)
  | .fr t it b, s => (match s with
    | .For tg iter bs [] _ => ((slotsT t).all (noIn io) && (notSet iter && chkG T t tg)) && (chkI G T tg it iter && chkSs G T io b bs)
    | _ => false)
  | .brk, s => (match s with
    | .Break _ => true
    | _ => false)
  | .cnt, s => (match s with
    | .Continue _ => true
    | _ => false)
  | .nev, _ => true
def chkSs (G : Gtab) (T : Tab) (io : List Nat) : List S → List Stmt → Bool
  | [], xs => xs.isEmpty
  | s :: ss, xs => (match xs with
    | x :: xs => chkS G T io s x && chkSs G T io ss xs
    | [] => false)
end

/-! ### what it is worth -/
section
variable {G : Gtab} {k : Nat} {T : Tab} {X : Cx} {xr : ExR} {W : WX} {Φ : Sig} {io : List Nat}
theorem noIn_of {i : Nat} (h : noIn io i = true) : i ∉ io := of_decide_eq_true h
theorem u_of (f : Fit G T k X xr W Φ) {t : Py.T} {e : PySem.Expr} (h : chkU G T io t e = true) : PG X e (tU X.K xr W Φ io t) ∧ nst e = true := by
  unfold chkU at h
  split at h
  · rw [Bool.and_eq_true] at h
    obtain ⟨a, b⟩ := st_of f h.1
    exact ⟨u_n f.x.nd a b (noIn_of h.2), rfl⟩
  · simp only [Bool.and_eq_true] at h
    obtain ⟨h1, h2, h3⟩ := h
    obtain ⟨a, b, c, d⟩ := vis_of f h1
    exact ⟨u_s a b c d (PE.d (ok (m := .v) _ h3 f)) (as1 h2), rfl⟩
  · cases h
theorem asg_cons {e : PySem.Expr} {es : List PySem.Expr} {env : PySem.Env} (h : nst e = true) : assignEach (e :: es) env = (false, assign e env) :: assignEach es env := by
  cases e <;> first | rfl | cases h
theorem us_of (f : Fit G T k X xr W Φ) : ∀ {ts : List Py.T} {es : List PySem.Expr}, chkUs G T io ts es = true → PGs X es (tUs X.K xr W Φ io ts) ∧ (assignEach es X.env).length = ts.length ∧ (assignEach es X.env).findIdx? (·.1) = none
  | [], [], _ => ⟨us_nil, rfl, rfl⟩
  | [], _ :: _, h => by cases h
  | _ :: _, [], h => by cases h
  | t :: ts, e :: es, h => by
    have h' : (chkU G T io t e && chkUs G T io ts es) = true := h
    rw [Bool.and_eq_true] at h'
    obtain ⟨a, b⟩ := u_of f h'.1
    obtain ⟨c, d, g⟩ := us_of f h'.2
    refine ⟨us_cons a c (by rw [asg_cons b]; rfl), ?_, ?_⟩
    · rw [asg_cons b, List.length_cons, d, List.length_cons]
    · rw [asg_cons b, List.findIdx?_cons, g]
      rfl
theorem rs_of : ∀ {cs : List E} {es : List PySem.Expr}, Sms .v X xr W Φ cs es → es.all nst = true → PA X es (tRs X.K xr W Φ cs)
  | [], [], _, _ => rs_nil
  | [], _ :: _, h, _ => h.elim
  | _ :: _, [], h, _ => h.elim
  | c :: cs, e :: es, ⟨h1, h2⟩, hs => by
    rw [List.all_cons, Bool.and_eq_true] at hs
    exact rs_cons h1 (rs_of h2 hs.2) hs.1
theorem loc_of (f : Fit G T k X xr W Φ) {i : Nat} {x : Str} (h : locC T i x = true) : X.N[i]? = some x ∧ X.env.scope.names.lookup x = some .local := by
  unfold locC at h
  simp only [Bool.and_eq_true, decide_eq_true_eq] at h
  exact ⟨by rw [f.nm]; exact h.1, by rw [f.sc]; exact h.2⟩
theorem blockK (f : Fit G T k X xr W Φ) (hk : T.sc.kind = .function) : X.env.blockKind = .function := by
  unfold Env.blockKind
  rw [f.sc, hk]
  rfl
theorem c_n (f : Fit G T k X xr W Φ) (hk : T.sc.kind = .function) {own : Bool} {i : Nat} {c : E} {e : PySem.Expr} {x : Str} {p p' : Pos} (h : chk G T .v c e = true) (ho : okC e = true) (hs : stC T i x = true) (hi : i ∉ io) : PS X (.Assign [.Name x p'] e p) (tS X.K xr W Φ io (.asg own (.n i) c)) := by
  obtain ⟨a, b⟩ := st_of f hs
  have he := ok (m := .v) c h f
  by_cases hn : noComp e = true
  · exact c_set f.x.nd a b hi he (sw0 hn)
  · cases e with
    | ListComp elt gs scope lp =>
      by_cases hw : swB T x p' (.ListComp elt gs scope lp) = true
      · unfold swB at hw
        simp only [Bool.and_eq_true, decide_eq_true_eq, Bool.not_eq_true'] at hw
        obtain ⟨w1, w2, w3⟩ := hw
        have xl : X.env.scope.names.lookup x = some .local := by rw [f.sc]; exact w1
        have sw : swapsWith (.ListComp elt gs scope lp) (some (.Name x p')) p.line X.env = pure true := sw_true (by rw [f.sc]; exact hk) xl w2 w3
        cases c with
        | lc el t it cs =>
          unfold chk at h
          split at h
          · rename_i elt' tg iter ifs isa scope' lp' heq
            cases heq
            simp only [Bool.and_eq_true, decide_eq_true_eq] at h
            obtain ⟨⟨rfl, h2, h3, h4, h5, h6⟩, h7, h8, h9⟩ := h
            have bo : BlkOk X.N X.env.scope scope (ownOf T t) := by rw [f.nm, f.sc]; exact blkOk_by h3
            exact c_setLc f.x a xl hi sw (okI it h7 f) bo h4 (fun s H C cl fp => tg_of (blk_fit f s H scope cl C fp) h5) (fun s H C cl fp => sms_t (okL (m := .t) cs h8 (blk_fit f s H scope cl C fp)) h6) (fun s H C cl fp => PE.d (ok (m := .v) el h9 (blk_fit f s H scope cl C fp))) (set_of h2)
          · cases h
        | _ => unfold chk at h; first | cases h | (split at h <;> first | cases h | (rename_i heq; cases heq)) | (unfold cstC at h; cases h)
      · have sw : swapsWith (.ListComp elt gs scope lp) (some (.Name x p')) p.line X.env = pure false := by
          rw [sw1]
          congr 1
          cases q : (X.env.blockKind == .function && X.env.kindOf x == some .local && p'.line == lp.line && !(scope.names.any fun (n, k) => n == x && (k == .local || k == .cell))) with
          | false => rfl
          | true =>
            exfalso
            apply hw
            simp only [Bool.and_eq_true, beq_iff_eq] at q
            obtain ⟨⟨⟨_, q2⟩, q3⟩, q4⟩ := q
            unfold swB
            simp only [Bool.and_eq_true, decide_eq_true_eq]
            refine ⟨?_, by simpa using q3, q4⟩
            have : X.env.scope.names.lookup x = some .local := q2
            rw [f.sc] at this
            exact this
        exact c_set f.x.nd a b hi he sw
    | SetComp => cases ho
    | DictComp => cases ho
    | _ => exact absurd rfl hn
theorem par_of (f : Fit G T k X xr W Φ) (hk : T.sc.kind = .function) {ws : List (Bool × Nat)} {cs : List E} {es xs : List PySem.Expr} {k1 k2 : Nat} {p1 p2 p : Pos} (h : chkPar G T io ws cs es xs = true) : PS X (.Assign [.Tuple es k1 p1] (.Tuple xs k2 p2) p) (tS X.K xr W Φ io (.par ws cs)) := by
  unfold chkPar at h
  split at h
  · rename_i o1 i o2 j x px y py a b
    simp only [Bool.and_eq_true, decide_eq_true_eq, Bool.not_eq_true'] at h
    obtain ⟨⟨a1, a2, a3, a4⟩, ⟨b1, b2, b3⟩, ⟨c1, c2⟩, ⟨d1, d2⟩, e1, e2⟩ := h
    obtain ⟨x1, x2⟩ := loc_of f a1
    obtain ⟨y1, y2⟩ := loc_of f a2
    have z := rs_of (okL (m := .v) cs e2 f) (by simp only [List.all_cons, c1, c2]; rfl)
    obtain ⟨ca, cb, rfl⟩ : ∃ ca cb, cs = [ca, cb] := by
      match cs, e1 with
      | [ca, cb], _ => exact ⟨ca, cb, rfl⟩
    exact c_par2 f.x.calm f.x.nd x1 y1 b1 x2 y2 (noIn_of a3) (noIn_of a4) z (ss3 (blockK f hk) x2 y2 b3 b2 c1 c2 d1 d2) sw3
  · rename_i o1 i o2 j o3 l x px y py z pz a b c
    simp only [Bool.and_eq_true, decide_eq_true_eq, Bool.not_eq_true'] at h
    obtain ⟨⟨a1, a2, a3, a4, a5, a6⟩, ⟨b1, b2, b3, b4, b5, b6, b7, b8⟩, ⟨c1, c2, c3⟩, ⟨d1, d2⟩, e1, e2⟩ := h
    obtain ⟨x1, x2⟩ := loc_of f a1
    obtain ⟨y1, y2⟩ := loc_of f a2
    obtain ⟨z1, z2⟩ := loc_of f a3
    have z := rs_of (okL (m := .v) cs e2 f) (by simp only [List.all_cons, c1, c2, c3]; rfl)
    obtain ⟨ca, cb, cc, rfl⟩ : ∃ ca cb cc, cs = [ca, cb, cc] := by
      match cs, e1 with
      | [ca, cb, cc], _ => exact ⟨ca, cb, cc, rfl⟩
    exact c_par3 f.x.calm f.x.nd x1 y1 z1 b1 b2 b3 x2 y2 z2 (noIn_of a4) (noIn_of a5) (noIn_of a6) z (ss4 (blockK f hk) x2 y2 z2 b7 b8 b4 b5 b6 c1 c2 c3 d1 d2) sw3
  · cases h
mutual
theorem okS (s : S) {st : Stmt} (h : chkS G T io s st = true) (f : Fit G T k X xr W Φ) (hk : T.sc.kind = .function) (hp : PassesOwn (model X.prog X.w) X.A X.env X.xe) : PS X st (tS X.K xr W Φ io s) := by
  match s with
  | .pas =>
    unfold chkS at h
    split at h
    · exact c_pass
    · cases h
  | .expr c =>
    unfold chkS at h
    split at h
    · rw [Bool.and_eq_true] at h
      exact c_expr (ok (m := .v) c h.2 f) (sw0 h.1)
    · cases h
  | .asg own t c =>
    unfold chkS at h
    split at h
    · rw [Bool.and_eq_true] at h
      obtain ⟨h1, h2⟩ := h
      split at h2
      · simp only [Bool.and_eq_true] at h2
        exact c_n f hk h1 h2.1 h2.2.1 (noIn_of h2.2.2)
      · exact c_setS (ok (m := .v) c h1 f) (u_of f h2).1 sw2 ss1 rfl
      · simp only [Bool.and_eq_true, Bool.not_eq_true'] at h2
        obtain ⟨a, b, d⟩ := us_of f h2.2
        exact c_setT f.x.calm (ok (m := .v) c h1 f) a b d sw3 (ss2 h2.1) rfl
      · cases h2
    · cases h
  | .par ws cs =>
    unfold chkS at h
    split at h
    · exact par_of f hk h
    · cases h
  | .ret own c =>
    unfold chkS at h
    split at h
    · exact c_ret (ok (m := .v) c h f)
    · cases h
  | .ifs c a b =>
    unfold chkS at h
    split at h
    · simp only [Bool.and_eq_true] at h
      exact c_if (ok (m := .t) c h.1 f) (okSs a h.2.1 f hk hp) (okSs b h.2.2 f hk hp)
    · cases h
  | .whl c b =>
    unfold chkS at h
    split at h
    · rw [Bool.and_eq_true] at h
      exact c_whl hp (ok (m := .t) c h.1 f) (okSs b h.2 f hk hp)
    · cases h
  | .fr t it b =>
    unfold chkS at h
    split at h
    · simp only [Bool.and_eq_true] at h
      obtain ⟨⟨h1, h2, h3⟩, h4, h5⟩ := h
      exact c_for f.x hp (fun i hi z => noIn_of (List.all_eq_true.mp h1 i z) hi) (okI it h4 f) (tg_of f h3) (okSs b h5 f hk hp) (set_of h2)
    · cases h
  | .brk =>
    unfold chkS at h
    split at h
    · exact c_brk
    · cases h
  | .cnt =>
    unfold chkS at h
    split at h
    · exact c_cnt
    · cases h
  | .nev => exact c_nev
theorem okSs (ss : List S) {sts : List Stmt} (h : chkSs G T io ss sts = true) (f : Fit G T k X xr W Φ) (hk : T.sc.kind = .function) (hp : PassesOwn (model X.prog X.w) X.A X.env X.xe) : PSs X sts (tSs X.K xr W Φ io ss) := by
  match ss with
  | [] =>
    unfold chkSs at h
    have : sts = [] := by cases sts <;> first | rfl | cases h
    subst this
    exact c_nil
  | s :: ss =>
    unfold chkSs at h
    split at h
    · rw [Bool.and_eq_true] at h
      exact c_cons (okS s h.1 f hk hp) (okSs ss h.2 f hk hp)
    · cases h
end
end
end Py

/-! Fun: a checked def keeps the promise; all defs of a program, by the depth of calls. -/
namespace Py
open PySem PySem.Spec PyProof.Rows L2
section
variable {K : PySem.W.Frag} {F H : Hp}
theorem argAll_len : ∀ {args : List Arg} {vs : List V}, ArgAll K F H args vs → vs.length = args.length
  | [], _, h => by
    have h' : _ = _ := h
    subst h'; rfl
  | a :: as, _, ⟨v, r, e, _, h⟩ => by subst e; rw [List.length_cons, List.length_cons, argAll_len h]
theorem argAll_get : ∀ {args : List Arg} {vs : List V} {i : Nat} {a : Arg}, ArgAll K F H args vs → args[i]? = some a → ∃ v, vs[i]? = some v ∧ ArgOk K F H a v
  | [], _, _, _, _, e => by simp at e
  | b :: as, _, 0, a, ⟨v, r, e, h1, _⟩, q => by
    subst e
    simp at q; subst q
    exact ⟨v, rfl, h1⟩
  | b :: as, _, i + 1, a, ⟨v, r, e, _, h⟩, q => by
    subst e
    obtain ⟨u, h1, h2⟩ := argAll_get (i := i) h (by simpa using q)
    exact ⟨u, by simpa using h1, h2⟩
theorem ref_mem : ∀ {args : List Arg} {vs : List V} {i : Nat} {od : OD} {p : Addr}, args[i]? = some (.r od) → vs[i]? = some (.ref p) → p ∈ refAddrs args vs
  | [], _, _, _, _, e, _ => by simp at e
  | _ :: _, [], _, _, _, _, e => by simp at e
  | a :: as, v :: vs, 0, od, p, e, q => by
    simp at e q
    subst e q
    exact List.mem_cons_self
  | a :: as, v :: vs, i + 1, od, p, e, q => by
    have z := ref_mem (args := as) (vs := vs) (i := i) (od := od) (p := p) (by simpa using e) (by simpa using q)
    cases a with
    | v d => cases v <;> exact z
    | r o => cases v <;> first | exact List.mem_cons_of_mem _ z | exact z
theorem mem_ref : ∀ {args : List Arg} {vs : List V} {p : Addr}, p ∈ refAddrs args vs → ∃ (i : Nat) (od : OD), args[i]? = some (Arg.r od) ∧ vs[i]? = some (V.ref p)
  | [], [], _, h => by simp [refAddrs] at h
  | [], _ :: _, _, h => by simp [refAddrs] at h
  | a :: as, [], _, h => by cases a <;> simp [refAddrs] at h
  | a :: as, v :: vs, p, h => by
    have step : p ∈ refAddrs as vs → ∃ (i : Nat) (od : OD), (a :: as)[i]? = some (Arg.r od) ∧ (v :: vs)[i]? = some (V.ref p) := fun h => by
      obtain ⟨i, od, h1, h2⟩ := mem_ref h
      exact ⟨i + 1, od, by simpa using h1, by simpa using h2⟩
    cases a with
    | v d => exact step (by cases v <;> exact h)
    | r o =>
      cases v with
      | ref q =>
        rcases List.mem_cons.mp h with rfl | h
        · exact ⟨0, o, rfl, rfl⟩
        · exact step h
      | _ => exact step h
theorem ref_inj : ∀ {args : List Arg} {vs : List V} {i j : Nat} {oi oj : OD} {p : Addr}, (refAddrs args vs).Nodup → args[i]? = some (.r oi) → vs[i]? = some (.ref p) → args[j]? = some (.r oj) → vs[j]? = some (.ref p) → i = j
  | [], _, _, _, _, _, _, _, e, _, _, _ => by simp at e
  | _ :: _, [], _, _, _, _, _, _, _, e, _, _ => by simp at e
  | a :: as, v :: vs, i, j, oi, oj, p, nd, e1, e2, e3, e4 => by
    have tail : (refAddrs as vs).Nodup := by
      cases a with
      | v d => cases v <;> exact nd
      | r o =>
        cases v with
        | ref q => exact (List.nodup_cons.mp nd).2
        | _ => exact nd
    have head : ∀ {l : Nat} {ol : OD}, a = .r ol → v = .ref p → ∀ {o' : OD}, as[l]? = some (.r o') → vs[l]? = some (.ref p) → False := fun {l ol} ea ev {o'} h1 h2 => by
      subst ea ev
      exact (List.nodup_cons.mp nd).1 (ref_mem h1 h2)
    cases i with
    | zero =>
      cases j with
      | zero => rfl
      | succ j =>
        simp at e1 e2
        exact (head e1 e2 (by simpa using e3) (by simpa using e4)).elim
    | succ i =>
      cases j with
      | zero =>
        simp at e3 e4
        exact (head e3 e4 (by simpa using e1) (by simpa using e2)).elim
      | succ j =>
        rw [ref_inj (i := i) (j := j) tail (by simpa using e1) (by simpa using e2) (by simpa using e3) (by simpa using e4)]
/-- the slots at a def's entry -/
def entry (args : List Arg) (n : Nat) : Py.Env := args.map slotOf ++ List.replicate n .un
theorem entry_own {args : List Arg} {n i : Nat} {o : OD} (h : (entry args n)[i]? = some (.own o)) : args[i]? = some (.r o) := by
  unfold entry at h
  by_cases hl : i < args.length
  · rw [List.getElem?_append_left (by simpa using hl), List.getElem?_map] at h
    cases q : args[i]? with
    | none => rw [q] at h; cases h
    | some a =>
      rw [q] at h
      cases a with
      | v d => cases h
      | r o' => cases h; rfl
  · rw [List.getElem?_append_right (by simpa using hl)] at h
    have := List.mem_of_getElem? h
    have := List.eq_of_mem_replicate this
    cases this
theorem start_left {N : List Str} {vs : List V} {i : Nat} {v : V} (h : vs[i]? = some v) : (L2.start N vs)[i]? = some (some v) := by
  unfold L2.start
  have hl : i < vs.length := (List.getElem?_eq_some_iff.mp h).1
  rw [List.getElem?_append_left (by simpa using hl), List.getElem?_map, h]
  rfl
theorem entry_rel {N : List Str} {args : List Arg} {vs : List V} (h : ArgsOk K F H args vs) (hl : args.length ≤ N.length) : Rel K F H (L2.start N vs) (entry args (N.length - args.length)) where
  le := h.le
  len := by
    have := argAll_len h.all
    unfold entry L2.start
    simp
    omega
  slot := fun i s hs => by
    by_cases hi : i < args.length
    · unfold entry at hs
      rw [List.getElem?_append_left (by simpa using hi), List.getElem?_map] at hs
      cases q : args[i]? with
      | none => rw [q] at hs; cases hs
      | some a =>
        rw [q] at hs
        cases hs
        obtain ⟨v, hv, ha⟩ := argAll_get h.all q
        cases a with
        | v d => exact ⟨v, start_left hv, ha⟩
        | r od =>
          obtain ⟨p, rfl, h1, h2⟩ := ha
          exact ⟨p, start_left hv, h1, h2⟩
    · unfold entry at hs
      rw [List.getElem?_append_right (by simpa using hi)] at hs
      rw [List.eq_of_mem_replicate (List.mem_of_getElem? hs)]
      exact True.intro
  apart := fun i j oi oj p h1 h2 h3 h4 => by
    have a1 := entry_own h1
    have a2 := entry_own h2
    obtain ⟨v1, b1, c1⟩ := argAll_get h.all a1
    obtain ⟨v2, b2, c2⟩ := argAll_get h.all a2
    rw [start_left b1] at h3
    rw [start_left b2] at h4
    cases h3
    cases h4
    exact ref_inj h.nd a1 b1 a2 b2
theorem entry_owns {N : List Str} {args : List Arg} {vs : List V} (h : ArgsOk K F H args vs) {n : Nat} {p : Addr} : Owns (entry args n) (L2.start N vs) p ↔ p ∈ refAddrs args vs := by
  constructor
  · rintro ⟨i, o, h1, h2⟩
    have a1 := entry_own h1
    obtain ⟨v1, b1, c1⟩ := argAll_get h.all a1
    rw [start_left b1] at h2
    cases h2
    exact ref_mem a1 b1
  · intro hp
    obtain ⟨i, od, h1, h2⟩ := mem_ref hp
    refine ⟨i, od, ?_, start_left h2⟩
    unfold entry
    have hl : i < args.length := (List.getElem?_eq_some_iff.mp h1).1
    rw [List.getElem?_append_left (by simpa using hl), List.getElem?_map, h1]
    rfl
theorem ioOk_mem : ∀ {args : List Arg} {io : List Nat} {n i : Nat} {od : OD}, ioOk io n args = true → args[i]? = some (.r od) → n + i ∈ io
  | [], _, _, _, _, _, e => by simp at e
  | a :: as, io, n, 0, od, h, e => by
    simp at e; subst e
    have h' : (decide (n ∈ io) && ioOk io (n + 1) as) = true := h
    simp only [Bool.and_eq_true, decide_eq_true_eq] at h'
    simpa using h'.1
  | a :: as, io, n, i + 1, od, h, e => by
    have t : ioOk io (n + 1) as = true := by
      cases a with
      | v d => exact h
      | r o =>
        have h' : (decide (n ∈ io) && ioOk io (n + 1) as) = true := h
        rw [Bool.and_eq_true] at h'
        exact h'.2
    have z := ioOk_mem (i := i) t (by simpa using e)
    have : n + (i + 1) = n + 1 + i := by omega
    rw [this]; exact z
/-- what was handed in by reference stands at its slots -/
theorem outs_ok {F' H' : Hp} {σ' : L2.St} : ∀ {args : List Arg} {vs : List V} {e e0 : Py.Env} {outs : List OD} (n : Nat), Rel K F' H' σ' e0 → (∀ i s, e[i]? = some s → e0[n + i]? = some s) → (∀ i od, args[i]? = some (.r od) → ∃ p, vs[i]? = some (.ref p) ∧ σ'[n + i]? = some (some (V.ref p))) → vs.length = args.length → outsOf args e = some outs →
    OutAll K F' H' (refAddrs args vs) outs ∧ ∀ p ∈ refAddrs args vs, Owns e0 σ' p
  | [], vs, e, e0, outs, n, r, _, _, hl, ho => by
    cases vs with
    | cons v vs => simp at hl
    | nil => cases ho; exact ⟨rfl, fun p hp => by simp [refAddrs] at hp⟩
  | a :: as, [], _, _, _, _, _, _, _, hl, _ => by simp at hl
  | a :: as, v :: vs, [], e0, outs, n, r, _, _, hl, ho => by cases a <;> cases ho
  | a :: as, v :: vs, s :: e, e0, outs, n, r, he, hr, hl, ho => by
    have step : ∀ {os : List OD}, outsOf as e = some os → OutAll K F' H' (refAddrs as vs) os ∧ ∀ p ∈ refAddrs as vs, Owns e0 σ' p := fun {os} h => outs_ok (n + 1) r (fun i s hs => by
        have := he (i + 1) s (by simpa using hs)
        have e1 : n + (i + 1) = n + 1 + i := by omega
        rw [e1] at this; exact this) (fun i od hi => by
        obtain ⟨p, h1, h2⟩ := hr (i + 1) od (by simpa using hi)
        have e1 : n + (i + 1) = n + 1 + i := by omega
        rw [e1] at h2
        exact ⟨p, by simpa using h1, h2⟩) (by simpa using hl) h
    cases a with
    | v d =>
      have : refAddrs (Arg.v d :: as) (v :: vs) = refAddrs as vs := by cases v <;> rfl
      rw [this]
      exact step ho
    | r od =>
      obtain ⟨p, h1, h2⟩ := hr 0 od rfl
      simp at h1
      subst h1
      cases s with
      | own o =>
        have ho' : (match outsOf as e with
          | some os => some (o :: os)
          | none => none) = some outs := ho
        cases q : outsOf as e with
        | none => rw [q] at ho'; cases ho'
        | some os =>
          rw [q] at ho'
          cases ho'
          obtain ⟨t1, t2⟩ := step q
          have hs : e0[n + 0]? = some (.own o) := he 0 _ rfl
          obtain ⟨p', e1, f1, f2⟩ := r.slot _ _ hs
          rw [h2] at e1
          cases e1
          refine ⟨⟨o, os, rfl, f1, f2, t1⟩, fun q' hq => ?_⟩
          rcases List.mem_cons.mp hq with rfl | hq
          · exact ⟨n + 0, o, hs, h2⟩
          · exact t2 q' hq
      | _ => cases ho
end

/-- a def's text and its form here -/
def chkFn (G : Gtab) (N ps : List Str) (sc : Scope) (fn : Fn) (body : List Stmt) : Bool :=
  (decide (sc.kind = .function) && (decide (fn.nargs = ps.length) && (decide (fn.nslots = N.length) && decide (ps.length ≤ N.length)))) && chkSs G ⟨N, sc, true⟩ fn.io fn.body body
section
variable {P : Program} {w : World} {K : PySem.W.Frag} {mg : Str → Option Value} {base : Heap} {xr : ExR} {G : Gtab} {fns : List Fn} {n : Nat}
theorem sp_none {f : Nat} {vs : List V} {H : Hp} {Q : VK} {E : XK} (h : spOf K xr (fun _ _ => none) f vs H Q E) : False := by
  obtain ⟨_, _, _, h⟩ := h
  exact h
theorem runFn_len {Φ : Sig} {fn : Fn} {args : List Arg} {r : Py.CR} (h : runFn thePar Φ fn args = some r) : args.length = fn.nargs ∧ ioOk fn.io 0 args = true := by
  unfold runFn at h
  split at h
  · assumption
  · cases h
theorem fn_ok {f : Nat} {fn : Fn} {fa : Addr} {name qual : Str} {params : Arguments} {body : List Stmt} {scope : Scope} {dV kV doc pm cdv ct oc : Value} {an od : Option Addr} {osl : Array (Option Value)} {N ps : List Str}
    (hf : fns[f]? = some fn) (lk : K.lookup fa = some ⟨oc, od, .func (PySem.W.fnOf name qual params body scope dV kV doc pm an cdv ct), osl⟩) (hcd : PySem.W.codeIn K cdv qual = true) (S : FnScope N ps scope) (hc : chkFn G N ps scope fn body = true) (g : GOk G n P w K mg base xr (sig thePar fns n)) :
    FnG P w K mg base (n + 1) fa (PySem.W.fnOf name qual params body scope dV kV doc pm an cdv ct) ps (spOf K xr (sig thePar fns (n + 1)) f) := by
  unfold chkFn at hc
  simp only [Bool.and_eq_true, decide_eq_true_eq] at hc
  obtain ⟨⟨hk, hna, hns, hle⟩, hb⟩ := hc
  have sg : ∀ args, sig thePar fns (n + 1) f args = runFn thePar (sig thePar fns n) fn args := fun args => by
    show (match fns[f]? with
      | some fn => runFn thePar (sig thePar fns n) fn args
      | none => none) = _
    rw [hf]
  refine fnG_of lk hcd S (fun vs H Q E h => ?_) fun A outer s H vs Q E hr hg hsp => ?_
  · obtain ⟨F, args, ao, h⟩ := h
    rw [sg] at h
    cases e : runFn thePar (sig thePar fns n) fn args with
    | none => rw [e] at h; exact h.elim
    | some r => rw [argAll_len ao.all, (runFn_len e).1, hna]
  · obtain ⟨F, args, ao, h⟩ := hsp
    rw [sg] at h
    have hlen : args.length = fn.nargs ∧ ioOk fn.io 0 args = true := by
      cases e : runFn thePar (sig thePar fns n) fn args with
      | none => rw [e] at h; exact h.elim
      | some r => exact runFn_len e
    obtain ⟨l1, l2⟩ := hlen
    have fit : Fit G ⟨N, scope, true⟩ n (cxOf (L2.CX P w) P w K mg base N qual scope fa cdv A outer s H E) xr (fun cls d _ H' => E cls d H') (sig thePar fns n) :=
      ⟨⟨rfl, hr, hg, S.nd⟩, rfl, rfl, fun _ _ => rfl, takes_of rfl rfl rfl rfl, g⟩
    have ps' := okSs (io := fn.io) fn.body hb fit hk (passes_of rfl)
    refine ⟨_, ps', F, entry args (N.length - args.length), entry_rel ao (by rw [l1, hna]; exact hle), ?_⟩
    have ee : entry args (N.length - args.length) = args.map slotOf ++ List.replicate (fn.nslots - fn.nargs) .un := by
      unfold entry
      rw [hns, l1]
    have hrun : runFn thePar (sig thePar fns n) fn args = match evSs thePar (sig thePar fns n) fn.body (entry args (N.length - args.length)) with
        | some (.nx e) => (outsOf args e).map (Py.CR.ret (.v .non))
        | some (.rt r e) => (outsOf args e).map (Py.CR.ret r)
        | some (.ex x e) => (outsOf args e).map (Py.CR.exc x)
        | _ => none := by
      rw [ee]
      unfold runFn
      rw [if_pos ⟨l1, l2⟩] <;> rfl
    rw [hrun] at h
    -- behind the body
    have fin : ∀ {e : Py.Env} {outs : List OD} {σ' : L2.St} {F' H' : Hp}, outsOf args e = some outs → Inn K fn.io F H (Owns (entry args (N.length - args.length)) (L2.start N vs)) (L2.start N vs) F' H' σ' e → Ret K F H (refAddrs args vs) outs F' H' ∧ ∀ p ∈ refAddrs args vs, Owns e σ' p := fun {e outs σ' F' H'} ho inn => by
      obtain ⟨o1, o2⟩ := outs_ok (vs := vs) 0 inn.rel (fun i s hs => by rw [Nat.zero_add]; exact hs) (fun i od hi => by
        obtain ⟨v, hv, p, rfl, _⟩ := argAll_get ao.all hi
        refine ⟨p, hv, ?_⟩
        have hin : 0 + i ∈ fn.io := ioOk_mem l2 hi
        rw [inn.io _ hin, Nat.zero_add]
        exact start_left hv) (argAll_len ao.all) ho
      exact ⟨⟨inn.rel.le, inn.go.weak fun p hp => (entry_owns ao).mp hp, o1⟩, o2⟩
    have retv : ∀ {e : Py.Env} {outs : List OD} {σ' : L2.St} {F' H' : Hp} {rv : RV} {v : V}, outsOf args e = some outs → Inn K fn.io F H (Owns (entry args (N.length - args.length)) (L2.start N vs)) (L2.start N vs) F' H' σ' e → RVok K F' H' σ' e rv v → Org H (Owns (entry args (N.length - args.length)) (L2.start N vs)) rv v → RetV K H (refAddrs args vs) F' H' rv v := fun {e outs σ' F' H' rv v} ho inn rok org => by
      cases rv with
      | v d => exact rok
      | o od =>
        obtain ⟨p, rfl, h1, h2, h3⟩ := rok
        have np : p ∉ refAddrs args vs := fun z => h3 ((fin ho inn).2 p z)
        refine ⟨p, rfl, h1, h2, ?_, np⟩
        rcases org p rfl with z | z
        · exact z
        · exact absurd ((entry_owns ao).mp z) np
    cases eb : evSs thePar (sig thePar fns n) fn.body (entry args (N.length - args.length)) with
    | none => rw [eb] at h; exact h.elim
    | some o =>
      rw [eb] at h
      cases o with
      | nx e =>
        dsimp only at h
        cases eo : outsOf args e with
        | none =>
          rw [eo] at h; dsimp only [Option.map] at h
        | some outs =>
          rw [eo] at h; dsimp only [Option.map] at h
          intro σ' F' H' inn
          exact h .non F' H' (fin eo inn).1 (by show Rep K F' .non _; unfold Rep; rfl)
      | rt rv e =>
        dsimp only at h
        cases eo : outsOf args e with
        | none => rw [eo] at h; dsimp only [Option.map] at h
        | some outs =>
          rw [eo] at h; dsimp only [Option.map] at h
          intro v σ' F' H' inn rok org
          exact h v F' H' (fin eo inn).1 (retv eo inn rok org)
      | bk e => exact h.elim
      | ct e => exact h.elim
      | ex x e =>
        dsimp only at h
        cases eo : outsOf args e with
        | none => rw [eo] at h; dsimp only [Option.map] at h
        | some outs =>
          rw [eo] at h; dsimp only [Option.map] at h
          intro cls d σ' F' H' inn hx
          exact h cls d F' H' (fin eo inn).1 hx

/-- what is known of the program's defs: enough that a deeper call is good -/
structure Prog (G : Gtab) (P : Program) (w : World) (K : PySem.W.Frag) (mg : Str → Option Value) (base : Heap) (fns : List Fn) : Prop where
  free : ∀ x ∈ G.free, mg x = none
  cons : ∀ (i : Nat) (x : Str) (d : D), G.cons[i]? = some (x, d) → ∃ u v, mg x = some u ∧ constV d = some v ∧ L2.RelV v u
  fns : ∀ (f : Nat) (nm : Str), G.fnm[f]? = some nm → ∃ (fa : Addr) (fd : FuncData) (ps : List Str), mg nm = some (.ref fa) ∧ PySem.W.keepIn K (.ref fa) = true ∧ L2.Binds K fd ps [] ∧ (∀ q ∈ G.kb, q.f = f → KB fd ps q.np q.kn q.pm) ∧
    ∀ (n : Nat) (xr : ExR), GOk G n P w K mg base xr (sig thePar fns n) → FnG P w K mg base (n + 1) fa fd ps (spOf K xr (sig thePar fns (n + 1)) f)
theorem Prog.ok (p : Prog G P w K mg base fns) (xr : ExR) : ∀ n, GOk G n P w K mg base xr (sig thePar fns n)
  | 0 => ⟨p.free, p.cons, fun f nm h => by
    obtain ⟨fa, fd, ps, a, b, c, d, _⟩ := p.fns f nm h
    exact ⟨fa, fd, ps, a, b, c, ⟨fun vs H Q E z => (sp_none z).elim, fun A outer s H args us vs Q E hr hg e0 hb r z => (sp_none z).elim⟩, d⟩⟩
  | n + 1 => ⟨p.free, p.cons, fun f nm h => by
    obtain ⟨fa, fd, ps, a, b, c, d, e⟩ := p.fns f nm h
    exact ⟨fa, fd, ps, a, b, c, e n xr (Prog.ok p xr n), d⟩⟩
end
end Py

/-! End: from the head's facts to the law's promise. -/
namespace Py
open PySem PySem.Spec PyProof.Rows L2
section
variable {P : Program} {w : World} {K : PySem.W.Frag} {mg : Str → Option Value} {base : Heap} {G : Gtab} {fns : List Fn}
/-- what Prog asks of one def -/
def FnsAt (G : Gtab) (P : Program) (w : World) (K : PySem.W.Frag) (mg : Str → Option Value) (base : Heap) (fns : List Fn) (f : Nat) (nm : Str) : Prop :=
  ∃ (fa : Addr) (fd : FuncData) (ps : List Str), mg nm = some (.ref fa) ∧ PySem.W.keepIn K (.ref fa) = true ∧ L2.Binds K fd ps [] ∧ (∀ q ∈ G.kb, q.f = f → KB fd ps q.np q.kn q.pm) ∧
    ∀ (n : Nat) (xr : ExR), GOk G n P w K mg base xr (sig thePar fns n) → FnG P w K mg base (n + 1) fa fd ps (spOf K xr (sig thePar fns (n + 1)) f)
theorem fns_at {f : Nat} {fn : Fn} {fa : Addr} {fd : FuncData} {N ps : List Str} {x nm : Str} {params : Arguments} {body : List Stmt} {scope : Scope} (F : FunD K x x params body scope [] [] fa fd) (hm : mg nm = some (.ref fa)) (hf : fns[f]? = some fn) (S : FnScope N ps scope) (hc : chkFn G N ps scope fn body = true)
    (hb : ∀ (kV doc pm : Value) (an : Option Addr) (cdv ct : Value) (us : List Value), us.length = ps.length → bindArgs (PySem.W.fnOf x x params body scope .none kV doc pm an cdv ct) ⟨us, []⟩ = pure (ps.zip us))
    (hk : ∀ q ∈ G.kb, q.f = f → ∀ (kV doc pm : Value) (an : Option Addr) (cdv ct : Value), KB (PySem.W.fnOf x x params body scope .none kV doc pm an cdv ct) ps q.np q.kn q.pm) : FnsAt G P w K mg base fns f nm := by
  obtain ⟨oc, od, dV, kV, doc, pm, an, cdv, ct, osl, e, lk, hcd, hD, hK⟩ := F.ex
  have ed : dV = .none := by
    rcases hD with ⟨_, e⟩ | ⟨e, _⟩
    · exact e
    · exact absurd rfl e
  subst ed
  subst e
  exact ⟨fa, _, ps, hm, F.kp, .all (hb kV doc pm an cdv ct), fun q hq e => hk q hq e kV doc pm an cdv ct, fun n xr g => fn_ok hf lk hcd S hc g⟩
theorem fn_by {n f : Nat} {xr : ExR} {fn : Fn} {fa : Addr} {fd : FuncData} {N ps : List Str} {x : Str} {params : Arguments} {body : List Stmt} {scope : Scope} (F : FunD K x x params body scope [] [] fa fd) (hf : fns[f]? = some fn) (S : FnScope N ps scope) (hc : chkFn G N ps scope fn body = true) (g : GOk G n P w K mg base xr (sig thePar fns n)) :
    FnG P w K mg base (n + 1) fa fd ps (spOf K xr (sig thePar fns (n + 1)) f) := by
  obtain ⟨oc, od, dV, kV, doc, pm, an, cdv, ct, osl, e, lk, hcd, hD, hK⟩ := F.ex
  subst e
  exact fn_ok hf lk hcd S hc g

/-! ### the law's call, by such a promise -/
theorem law_g {mb : Str → Option Value} {k : Nat} {fa a : Addr} {fd : FuncData} {x : Str} {sp : Sp} {s₁ : Shared} {vs : List Value} {ns : List Int} (KX : K.In s₁.heap) (gN : s₁.heap.Ns mainGlobals mg) (bN : s₁.heap.Ns builtinsNs mb) (bB : ∀ x : Str, x ≠ "__name__" → mb x = bootBuiltins x) (lim' : s₁.heap.NoLimit) (g0 : s₁.gens = #[])
    (ha : s₁.heap.get? a = some { cls := .type "list", data := .seq vs.toArray }) (hi : IntsAre vs ns) (hl : ns.length ≤ sizeLine) (hr : Room k callerA) (F : ∀ base : Heap, K.In base → base.Ns mainGlobals mg → FnG P w K mg base k fa fd [x] sp) (hb : ∀ (s : Shared) (u : Value), BindsTo s fd ⟨[u], []⟩ [(x, u)])
    (hsp : ∀ H : Hp, SqL K H a (ns.map V.int) → sp [.ref a] H (fun v _ => v = .bl true) fun _ _ _ => False) :
    codeAny (model P w) callerA (.call (.ref fa) ⟨[.ref a], []⟩) (fun r s' => r = .ok (.ret (.bool true)) ∧ OldK s₁.heap s'.heap ∧ s'.os = s₁.os ∧ AllBare s'.gens) s₁ := by
  have rv := vals_ints hi
  generalize hob : ({ cls := .type "list", data := .seq vs.toArray } : Obj) = ob at ha
  -- the script is tracked, where the module does not own it
  let H : Hp := fun b => if b = a ∧ K.lookup a = none then some (.frz ob (.lst (ns.map V.int))) else none
  have Hsome : ∀ {b : Addr} {u : HO}, H b = some u → b = a ∧ K.lookup a = none ∧ u = .frz ob (.lst (ns.map V.int)) := fun {b u} h => by
    by_cases hc : b = a ∧ K.lookup a = none
    · have : H b = some (.frz ob (.lst (ns.map V.int))) := if_pos hc
      rw [this] at h
      cases h
      exact ⟨hc.1, hc.2, rfl⟩
    · have : H b = none := if_neg hc
      rw [this] at h; cases h
  have seen : ∀ {b : Addr} {o : Obj}, s₁.heap.get? b = some o → (b = a → False) → H b = none := fun {b o} _ n => if_neg fun z => n z.1
  have notDict : ∀ {b : Addr} {o : Obj} {es : Array DictEntry} {ep : Nat}, s₁.heap.get? b = some o → o.data = .dict es ep → b = a → False := fun {b o es ep} e d z => by
    rw [z, ha] at e
    cases e
    rw [← hob] at d
    cases d
  have nsH : ∀ {b : Addr} {m : Str → Option Value}, s₁.heap.Ns b m → (hidT s₁.heap H).Ns b m := fun {b m} ⟨o, es, ep, e, d, r⟩ => ⟨o, es, ep, hidT_get e (seen e (notDict e d)), d, r⟩
  have kH : K.In (hidT s₁.heap H) := fun b o e => hidT_get (KX b o e) (if_neg fun z => by rw [← z.1, e] at z; cases z.2)
  have sq : SqL K H a (ns.map V.int) := by
    cases hk : K.lookup a with
    | none => exact .inl (.inr ⟨ob, if_pos ⟨rfl, hk⟩⟩)
    | some o =>
      have e := KX a o hk
      rw [ha] at e
      cases e
      subst hob
      exact .inr ⟨_, vs.toArray, _, hk, rfl, rfl, rfl, by rw [List.size_toArray, hi.length]; exact hl, by simpa using rv⟩
  have hok : HOk P w H s₁.heap := fun b u h => by
    obtain ⟨rfl, _, rfl⟩ := Hsome h
    refine ⟨ha, by rw [List.length_map]; exact hl, vs, _, rv, by rw [← hob] at ha; exact ha⟩
  have M : Mod K mg (hidT s₁.heap H) := ⟨kH, nsH gN, ⟨mb, nsH bN, bB⟩, let ⟨mc, h1, h2⟩ := lim'; ⟨mc, nsH h1, h2⟩⟩
  have none0 : ∀ {b : Addr}, b ∉ ([] : List Addr) := fun {b} z => by cases z
  have e0 : Env0 P w K mg (hidT s₁.heap H) callerA [] s₁ H := ⟨rfl, M, fun b o e => of_hidT e, Nat.le_of_eq (hidT_size _ _), trivial, fun b z => absurd (show b ∈ ([] : List Addr) from z) none0, hok, .of_eq g0⟩
  refine codeAny_mono ((F _ kH (nsH gN)).go callerA [] s₁ H ⟨[.ref a], []⟩ [.ref a] [.ref a] _ _ hr rfl e0 (hb s₁ (.ref a)) (.cons rfl .nil) (hsp H sq)) fun q s' h => ?_
  cases q with
  | error e =>
    obtain ⟨_, _, _, _, _, _, _, _, _, z⟩ := h
    exact absurd z (by simp)
  | ok fl =>
    cases fl with
    | ret u =>
      obtain ⟨v, H', os', bare', un, hok', r', hv⟩ := h
      have hv' : v = .bl true := hv
      subst hv'
      have hu : u = Value.bool true := r'
      subst hu
      refine ⟨rfl, OldK.of_keep fun b o e => ?_, os', bare'⟩
      cases hH : H b with
      | none => exact un.keep b o e hH none0 none0
      | some u =>
        obtain ⟨_, _, rfl⟩ := Hsome hH
        have k1 := (hok b _ hH).1
        have k2 := (hok' b _ (un.frzs b ob _ hH)).1
        rw [e] at k1
        cases k1
        exact k2
    | next => exact h.elim
    | brk => exact h.elim
    | cont => exact h.elim
theorem walk_g {l : PySem.W.OpenLaw} {n k : Nat} {q : Program} {loose : List Str} {XP : (Str → Option Value) → Heap → Prop} {YP : World → Heap → Prop} {d : DefRec} {x : Str} (hn : l.most = some n) (hn2 : n ≤ sizeLine) (hdf : d.params.defaults = []) (hr : Room k callerA)
    (F : ∀ (w : World) (mg : Str → Option Value) (fa : Addr) (h : Heap), YP w h → h.Ns mainGlobals mg → mg d.name = some (.ref fa) → ∃ (K : PySem.W.Frag) (fd : FuncData) (sp : Sp), K.In h ∧ (∀ (s : Shared) (u : Value), BindsTo s fd ⟨[u], []⟩ [(x, u)]) ∧
        (∀ (H : Hp) (a : Addr) (ns : List Int), ns.length ≤ n → SqL K H a (ns.map V.int) → sp [.ref a] H (fun v _ => v = .bl true) fun _ _ _ => False) ∧ ∀ base : Heap, K.In base → base.Ns mainGlobals mg → FnG l.prog w K mg base k fa fd [x] sp) :
    PySem.W.WalkO q loose XP YP l.row.toRowW d [] (fun f vs => PySem.call f vs) :=
  Att.attach_call hn hdf fun w s₀ s₁ mg mb fa o pm cd doc a vs ns G Y ho hd hcd hmg hobj hints hlen hg => by
    obtain ⟨K, fd, sp, KX, hb, hsp, hF⟩ := F w mg fa _ Y G.T.g hmg
    exact law_g KX G.T.g G.T.b G.T.builtins G.T.nolimit hg hobj hints (Nat.le_trans hlen hn2) hr hF hb fun H hS => hsp H a ns hlen hS
/-- the law's promise: it answers True -/
theorem law_sp {n f : Nat} {xr : ExR} {H : Hp} {a : Addr} {ns : List Int} (hS : SqL K H a (ns.map V.int)) (h : sig thePar fns n f [.v (.scr ns)] = some (.ret (.v (.bl true)) [])) : spOf K xr (sig thePar fns n) f [.ref a] H (fun v _ => v = .bl true) fun _ _ _ => False := by
  refine ⟨H, [.v (.scr ns)], ⟨Le.refl _, ⟨_, _, rfl, ?_, rfl⟩, by simp [refAddrs]⟩, ?_⟩
  · show Rep K H (.scr ns) (.ref a)
    unfold Rep
    exact ⟨a, rfl, hS⟩
  · rw [h]
    intro v F' H' _ rv
    have rv' : Rep K F' (.bl true) v := rv
    unfold Rep at rv'
    exact rv'
end
end Py

set_option maxHeartbeats 8000000
namespace La
open Py
def c_is_integer : Fn := ⟨1, 1, [], [.ret false (.and [(.isi (.var 0) [.int]), (.not (.isi (.var 0) [.bool]))])]⟩
def c_is_count : Fn := ⟨1, 1, [], [.ret false (.and [(.call 0 [.v (.var 0)] []), (.cmp .ge (.var 0) (.cst (.int 0)))])]⟩
def c_want_letters : Fn := ⟨1, 1, [], [.ifs (.or [(.not (.call 1 [.v (.var 0)] [])), (.not (.chn .le .le (.cst (.int 1)) (.var 0) (.gl 1 (.int 3))))]) [.nev] []]⟩
def c_is_word_of : Fn := ⟨2, 3, [], [.ifs (.or [(.not (.isi (.var 1) [.str])), (.cmp .gt (.p1 .len (.var 1)) (.gl 2 (.int 60)))]) [.ret false (.cst (.bl false))] [], .ret false (.p1 .all (.lc (.cmp .isIn (.var 2) (.slc (.gl 0 (.str [97, 98, 99])) .no (.var 0))) (.n 2) (.e (.var 1)) []))]⟩
def c_is_name_number : Fn := ⟨1, 1, [], [.ret false (.and [(.call 1 [.v (.var 0)] []), (.cmp .le (.var 0) (.gl 5 (.int 2)))])]⟩
def c_many_parts : Fn := ⟨3, 6, [], [.asg false (.n 3) (.bin .add (.gl 3 (.int 30)) (.cst (.int 1))), .ifs (.or [(.cmp .eq (.var 2) (.cst (.int 0))), (.not (.isi (.var 1) [.tuple])), (.cmp .notIn (.p1 .len (.var 1)) (.tup [(.cst (.int 2)), (.cst (.int 3))])), (.not (.isi (.idx (.var 1) (.cst (.int 0))) [.str]))]) [.ret false (.var 3)] [], .ifs (.and [(.cmp .isIn (.idx (.var 1) (.cst (.int 0))) (.tup [(.gl 6 (.str [119, 111, 114, 100])), (.gl 7 (.str [110, 97, 109, 101]))])), (.cmp .eq (.p1 .len (.var 1)) (.cst (.int 2)))]) [.asg false (.n 4) (.ite (.cmp .eq (.idx (.var 1) (.cst (.int 0))) (.gl 6 (.str [119, 111, 114, 100]))) (.call 3 [.v (.var 0), .v (.idx (.var 1) (.cst (.int 1)))] []) (.call 4 [.v (.idx (.var 1) (.cst (.int 1)))] [])), .ret false (.ite (.var 4) (.cst (.int 1)) (.var 3))] [], .ifs (.or [(.cmp .notIn (.idx (.var 1) (.cst (.int 0))) (.tup [(.gl 8 (.str [98, 101, 104, 105, 110, 100])), (.gl 9 (.str [101, 105, 116, 104, 101, 114])), (.gl 10 (.str [114, 111, 117, 110, 100]))])), (.cmp .ne (.p1 .len (.var 1)) (.ite (.cmp .eq (.idx (.var 1) (.cst (.int 0))) (.gl 10 (.str [114, 111, 117, 110, 100]))) (.cst (.int 2)) (.cst (.int 3))))]) [.ret false (.var 3)] [], .ret false (.bin .add (.cst (.int 1)) (.p1 .sum (.lc (.call 5 [.v (.var 0), .v (.var 5), .v (.bin .sub (.var 2) (.cst (.int 1)))] []) (.n 5) (.e (.slc (.var 1) (.cst (.int 1)) .no)) [])))]⟩
def c_is_pattern_of : Fn := ⟨2, 2, [], [.ret true (.cmp .le (.call 5 [.v (.var 0), .v (.var 1), .v (.gl 4 (.int 9))] []) (.gl 3 (.int 30)))]⟩
def c_want_pattern : Fn := ⟨2, 2, [], [.ifs (.not (.call 6 [.v (.var 0), .v (.var 1)] [])) [.nev] []]⟩
def c_names_in : Fn := ⟨1, 3, [], [.ifs (.cmp .eq (.idx (.var 0) (.cst (.int 0))) (.gl 7 (.str [110, 97, 109, 101]))) [.ret true (.lst [(.idx (.var 0) (.cst (.int 1)))])] [], .asg true (.n 1) (.lst []), .ifs (.cmp .ne (.idx (.var 0) (.cst (.int 0))) (.gl 6 (.str [119, 111, 114, 100]))) [.fr (.n 2) (.e (.slc (.var 0) (.cst (.int 1)) .no)) [.expr (.ext 1 (.call 8 [.v (.var 2)] []))]] [], .ret true (.p1 .sortedSet (.bor 1))]⟩
def c_is_pattern : Fn := ⟨2, 2, [], [.expr (.call 2 [.v (.var 0)] []), .ret true (.call 6 [.v (.var 0), .v (.var 1)] [])]⟩
def c_names_of : Fn := ⟨2, 2, [], [.expr (.call 2 [.v (.var 0)] []), .expr (.call 7 [.v (.var 0), .v (.var 1)] []), .ret true (.call 8 [.v (.var 1)] [])]⟩
def c__law_pot : Fn := ⟨2, 3, [], [.asg false (.n 2) (.bin .add (.bin .mul (.cst (.int 769)) (.var 1)) (.cst (.int 571))), .ifs (.cmp .lt (.var 1) (.p1 .len (.var 0))) [.asg false (.n 2) (.p1 .abs (.idx (.var 0) (.var 1)))] [], .ret true (.lst [(.p2 .max (.cst (.int 0)) (.bin .sub (.var 2) (.bin .pow (.cst (.int 10)) (.cst (.int 18))))), (.bin .add (.bin .mod (.p1 .int (.bin .add (.bin .add (.bin .mul (.bin .mod (.p1 .int (.var 2)) (.cst (.int 2147483549))) (.cst (.int 48271))) (.bin .mul (.cst (.int 3851)) (.var 1))) (.cst (.int 17)))) (.cst (.int 2147483563))) (.cst (.int 1)))])]⟩
def c__law_draw : Fn := ⟨2, 3, [0], [.ifs (.cmp .gt (.idx (.bor 0) (.cst (.int 0))) (.cst (.int 0))) [.asg false (.t [(.s 0 (.cst (.int 0))), (.n 2)]) (.p2 .divmod (.idx (.bor 0) (.cst (.int 0))) (.var 1)), .ret false (.var 2)] [], .asg false (.s 0 (.cst (.int 1))) (.bin .mod (.p1 .int (.bin .add (.bin .mul (.idx (.bor 0) (.cst (.int 1))) (.cst (.int 39373))) (.cst (.int 3851)))) (.cst (.int 2147483587))), .ret false (.bin .mod (.p1 .int (.bin .fdiv (.bin .mod (.p1 .int (.bin .mul (.idx (.bor 0) (.cst (.int 1))) (.idx (.bor 0) (.cst (.int 1))))) (.cst (.int 2147483563))) (.cst (.int 17)))) (.var 1))]⟩
def c__law_word : Fn := ⟨3, 5, [0], [.asg false (.n 3) (.cst (.str [])), .fr (.n 4) (.r1 (.call 12 [.r 0, .v (.bin .add (.var 2) (.cst (.int 1)))] [])) [.asg false (.n 3) (.bin .add (.var 3) (.idx (.cst (.str [97, 98, 99])) (.call 12 [.r 0, .v (.var 1)] [])))], .ret false (.var 3)]⟩
def c__law_leaf : Fn := ⟨3, 3, [0], [.ifs (.or [(.cmp .eq (.var 2) (.cst (.int 0))), (.cmp .lt (.call 12 [.r 0, .v (.cst (.int 5))] []) (.cst (.int 2)))]) [.ret false (.tup [(.cst (.str [119, 111, 114, 100])), (.call 13 [.r 0, .v (.var 1), .v (.cst (.int 2))] [])])] [], .ret false (.tup [(.cst (.str [110, 97, 109, 101])), (.call 12 [.r 0, .v (.var 2)] [])])]⟩
def c__law_pattern : Fn := ⟨4, 6, [0], [.asg false (.n 4) (.call 12 [.r 0, .v (.cst (.int 5))] []), .ifs (.or [(.cmp .eq (.var 3) (.cst (.int 0))), (.cmp .eq (.var 4) (.cst (.int 0)))]) [.ret false (.call 14 [.r 0, .v (.var 1), .v (.var 2)] [])] [], .asg false (.n 5) (.call 15 [.r 0, .v (.var 1), .v (.var 2), .v (.bin .sub (.var 3) (.cst (.int 1)))] []), .ifs (.cmp .eq (.var 4) (.cst (.int 1))) [.ret false (.tup [(.cst (.str [114, 111, 117, 110, 100])), (.var 5)])] [], .ret false (.tup [(.ite (.cmp .eq (.var 4) (.cst (.int 2))) (.cst (.str [101, 105, 116, 104, 101, 114])) (.cst (.str [98, 101, 104, 105, 110, 100]))), (.var 5), (.call 15 [.r 0, .v (.var 1), .v (.var 2), .v (.bin .sub (.var 3) (.cst (.int 1)))] [])])]⟩
def c__law_names : Fn := ⟨1, 3, [], [.ifs (.cmp .eq (.idx (.var 0) (.cst (.int 0))) (.cst (.str [110, 97, 109, 101]))) [.ret false (.lst [(.idx (.var 0) (.cst (.int 1)))])] [], .ifs (.cmp .eq (.idx (.var 0) (.cst (.int 0))) (.cst (.str [119, 111, 114, 100]))) [.ret false (.lst [])] [], .asg false (.n 1) (.lst []), .fr (.n 2) (.e (.slc (.var 0) (.cst (.int 1)) .no)) [.asg false (.n 1) (.bin .add (.var 1) (.call 16 [.v (.var 2)] []))], .ret false (.p1 .sortedSet (.var 1))]⟩
def c__law_is_small : Fn := ⟨2, 2, [], [.ret false (.and [(.isi (.var 0) [.int]), (.not (.isi (.var 0) [.bool])), (.chn .le .le (.cst (.int 0)) (.var 0) (.var 1))])]⟩
def c__law_look : Fn := ⟨3, 7, [], [.ifs (.or [(.cmp .eq (.var 2) (.cst (.int 0))), (.not (.isi (.var 1) [.tuple])), (.cmp .lt (.p1 .len (.var 1)) (.cst (.int 2))), (.not (.isi (.idx (.var 1) (.cst (.int 0))) [.str]))]) [.ret false (.cst (.int 99))] [], .par [(false, 3), (false, 4)] [(.idx (.var 1) (.cst (.int 0))), (.slc (.var 1) (.cst (.int 1)) .no)], .ifs (.and [(.cmp .eq (.var 3) (.cst (.str [119, 111, 114, 100]))), (.cmp .eq (.p1 .len (.var 4)) (.cst (.int 1))), (.isi (.idx (.var 4) (.cst (.int 0))) [.str])]) [.ret false (.ite (.and [(.cmp .lt (.p1 .len (.idx (.var 4) (.cst (.int 0)))) (.cst (.int 61))), (.p1 .all (.lc (.cmp .isIn (.var 5) (.slc (.cst (.str [97, 98, 99])) .no (.var 0))) (.n 5) (.e (.idx (.var 4) (.cst (.int 0)))) []))]) (.cst (.int 1)) (.cst (.int 99)))] [], .ifs (.and [(.cmp .eq (.var 3) (.cst (.str [110, 97, 109, 101]))), (.cmp .eq (.p1 .len (.var 4)) (.cst (.int 1)))]) [.ret false (.ite (.call 17 [.v (.idx (.var 4) (.cst (.int 0))), .v (.cst (.int 2))] []) (.cst (.int 1)) (.cst (.int 99)))] [], .ifs (.cmp .notIn (.lst [(.var 3), (.p1 .len (.var 4))]) (.lst [(.lst [(.cst (.str [98, 101, 104, 105, 110, 100])), (.cst (.int 2))]), (.lst [(.cst (.str [101, 105, 116, 104, 101, 114])), (.cst (.int 2))]), (.lst [(.cst (.str [114, 111, 117, 110, 100])), (.cst (.int 1))])])) [.ret false (.cst (.int 99))] [], .ret false (.bin .add (.cst (.int 1)) (.p1 .sum (.lc (.call 18 [.v (.var 0), .v (.var 6), .v (.bin .sub (.var 2) (.cst (.int 1)))] []) (.n 6) (.e (.var 4)) [])))]⟩
def c__law_is_pattern : Fn := ⟨2, 2, [], [.ret false (.cmp .le (.call 18 [.v (.var 0), .v (.var 1), .v (.cst (.int 9))] []) (.cst (.int 30)))]⟩
def c__law_bent : Fn := ⟨3, 4, [0], [.ifs (.or [(.cmp .isIn (.idx (.var 1) (.cst (.int 0))) (.lst [(.cst (.str [119, 111, 114, 100])), (.cst (.str [110, 97, 109, 101]))])), (.cmp .eq (.call 12 [.r 0, .v (.cst (.int 4))] []) (.cst (.int 0)))]) [.ret false (.var 2)] [], .asg false (.n 3) (.bin .add (.cst (.int 1)) (.call 12 [.r 0, .v (.bin .sub (.p1 .len (.var 1)) (.cst (.int 1)))] [])), .ret false (.bin .add (.bin .add (.slc (.var 1) .no (.var 3)) (.tup [(.call 20 [.r 0, .v (.idx (.var 1) (.var 3)), .v (.var 2)] [])])) (.slc (.var 1) (.bin .add (.var 3) (.cst (.int 1))) .no))]⟩
def c__law_wide : Fn := ⟨1, 4, [], [.asg false (.n 1) (.bin .mul (.lst [(.tup [(.cst (.str [119, 111, 114, 100])), (.cst (.str [97]))])]) (.bin .fdiv (.bin .add (.var 0) (.cst (.int 1))) (.cst (.int 2)))), .whl (.cmp .gt (.p1 .len (.var 1)) (.cst (.int 1))) [.asg true (.n 2) (.lst []), .fr (.n 3) (.r3 (.cst (.int 0)) (.bin .sub (.p1 .len (.var 1)) (.cst (.int 1))) (.cst (.int 2))) [.expr (.app 2 (.tup [(.cst (.str [101, 105, 116, 104, 101, 114])), (.idx (.var 1) (.var 3)), (.idx (.var 1) (.bin .add (.var 3) (.cst (.int 1))))]))], .asg false (.n 1) (.bin .add (.bor 2) (.slc (.var 1) (.bin .mul (.bin .fdiv (.p1 .len (.var 1)) (.cst (.int 2))) (.cst (.int 2))) .no))], .ret false (.idx (.var 1) (.cst (.int 0)))]⟩
def c__law_deep : Fn := ⟨2, 4, [], [.asg false (.n 2) (.var 1), .fr (.n 3) (.r1 (.bin .sub (.var 0) (.cst (.int 1)))) [.asg false (.n 2) (.ite (.cmp .eq (.bin .mod (.var 3) (.cst (.int 2))) (.cst (.int 0))) (.tup [(.cst (.str [114, 111, 117, 110, 100])), (.var 2)]) (.tup [(.cst (.str [98, 101, 104, 105, 110, 100])), (.var 2), (.tup [(.cst (.str [119, 111, 114, 100])), (.cst (.str []))])]))], .ret false (.var 2)]⟩
def c__law_values : Fn := ⟨3, 7, [0], [.asg true (.n 3) (.lst [(.cst .non), (.cst (.bl true)), (.cst (.int 0)), (.cst (.str [97])), (.tup []), (.lst []), .dct0, (.tup [(.cst (.str [110, 97, 109, 101])), (.cst (.int 0))]), (.tup [(.cst (.str [110, 97, 109, 101])), (.cst (.bl true))]), (.tup [(.cst (.str [110, 97, 109, 101])), (.cst (.int 2))]), (.tup [(.cst (.str [110, 97, 109, 101])), (.cst (.int 3))])]), .expr (.ext 3 (.lst [(.tup [(.cst (.str [119, 111, 114, 100])), (.cst (.str [97, 98, 99]))]), (.tup [(.cst (.str [119, 111, 114, 100])), (.bin .mul (.cst (.str [97])) (.cst (.int 60)))]), (.tup [(.cst (.str [119, 111, 114, 100])), (.bin .mul (.cst (.str [97])) (.cst (.int 61)))]), (.tup [(.cst (.str [119, 111, 114, 100])), (.lst [(.cst (.str [97]))])]), (.lst [(.cst (.str [119, 111, 114, 100])), (.cst (.str [97]))])])), .expr (.ext 3 (.lst [(.tup [(.cst (.str [114, 111, 117, 110, 100]))]), (.tup [(.cst (.str [114, 111, 117, 110, 100])), (.tup [(.cst (.str [119, 111, 114, 100])), (.cst (.str [99]))])]), (.tup [(.cst (.str [101, 105, 116, 104, 101, 114])), (.tup [(.cst (.str [119, 111, 114, 100])), (.cst (.str [97]))])]), (.tup [(.cst (.str [119, 111, 114, 100])), (.cst (.str [97])), (.cst (.str [98]))])])), .expr (.ext 3 (.lst [(.tup [(.cst (.str [87, 111, 114, 100])), (.cst (.str [97]))]), (.tup [(.cst (.str [110, 97, 109, 101])), (.neg (.cst (.int 1)))]), (.tup [(.cst (.str [110, 97, 109, 101])), (.cst (.str [48]))]), (.tup [(.tup [(.cst (.str [119, 111, 114, 100])), (.cst (.str [97]))])]), (.tup [(.cst (.str [98, 101, 104, 105, 110, 100])), (.cst (.int 0)), (.cst (.int 1))]), (.tup [(.cst .non), (.cst (.str [97]))])])), .asg true (.n 4) (.lst [(.var 2), (.p1 .list (.var 2)), (.bin .add (.var 2) (.tup [(.tup [(.cst (.str [119, 111, 114, 100])), (.cst (.str []))])])), (.slc (.var 2) .no (.cst (.int 1))), (.tup [(.cst (.str [114, 111, 117, 110, 100])), (.var 2)])]), .expr (.ext 4 (.lst [(.call 21 [.v (.cst (.int 29))] []), (.call 21 [.v (.cst (.int 31))] []), (.tup [(.cst (.str [114, 111, 117, 110, 100])), (.call 21 [.v (.cst (.int 29))] [])]), (.tup [(.cst (.str [114, 111, 117, 110, 100])), (.tup [(.cst (.str [114, 111, 117, 110, 100])), (.call 21 [.v (.cst (.int 29))] [])])])])), .fr (.n 5) (.e (.lst [(.cst (.int 8)), (.cst (.int 9)), (.cst (.int 10))])) [.expr (.ext 4 (.lst [(.call 22 [.v (.var 5), .v (.tup [(.cst (.str [110, 97, 109, 101])), (.cst (.int 1))])] []), (.call 22 [.v (.var 5), .v (.tup [(.cst (.str [119, 111, 114, 100])), (.cst (.str [98]))])] [])]))], .fr (.n 6) (.e (.var 3)) [.expr (.ext 4 (.lst [(.var 6), (.call 20 [.r 0, .v (.var 2), .v (.var 6)] [])]))], .ret false (.var 4)]⟩
def c__law_right : Fn := ⟨1, 8, [0], [.asg false (.n 1) (.bin .add (.cst (.int 1)) (.call 12 [.r 0, .v (.cst (.int 3))] [])), .asg false (.n 2) (.call 15 [.r 0, .v (.var 1), .v (.cst (.int 3)), .v (.cst (.int 3))] []), .fr (.t [(.n 3), (.n 4)]) (.en (.call 23 [.r 0, .v (.var 1), .v (.var 2)] [])) [.par [(false, 5), (false, 6)] [(.p1 .repr (.var 4)), (.call 19 [.v (.var 1), .v (.var 4)] [])], .asg true (.n 7) (.ite (.cmp .eq (.bin .mod (.var 3) (.cst (.int 2))) (.cst (.int 0))) (.call 9 [.v (.var 1), .v (.var 4)] []) (.call 9 [.v (.var 4), .v (.var 1)] [1, 0])), .ifs (.or [(.cmp .ne (.p1 .repr (.bor 7)) (.p1 .repr (.var 6))), (.cmp .ne (.p1 .repr (.var 4)) (.var 5))]) [.ret false (.cst (.bl false))] [], .ifs (.and [(.var 6), (.cmp .ne (.call 10 [.v (.var 1), .v (.var 4)] []) (.call 16 [.v (.var 4)] []))]) [.ret false (.cst (.bl false))] []], .asg true (.n 7) (.call 10 [.v (.var 2), .v (.var 1)] [1, 0]), .expr (.app 7 (.cst .non)), .ret false (.cmp .eq (.call 10 [.v (.var 1), .v (.var 2)] []) (.slc (.bor 7) .no (.neg (.cst (.int 1)))))]⟩
def c_law : Fn := ⟨1, 1, [], [.ret false (.call 24 [.o (.call 11 [.v (.var 0), .v (.cst (.int 0))] [])] [])]⟩
def fns : List Fn := [c_is_integer, c_is_count, c_want_letters, c_is_word_of, c_is_name_number, c_many_parts, c_is_pattern_of, c_want_pattern, c_names_in, c_is_pattern, c_names_of, c__law_pot, c__law_draw, c__law_word, c__law_leaf, c__law_pattern, c__law_names, c__law_is_small, c__law_look, c__law_is_pattern, c__law_bent, c__law_wide, c__law_deep, c__law_values, c__law_right, c_law]
/-! numbers: 0 is_integer, 1 is_count, 2 want_letters, 3 is_word_of, 4 is_name_number, 5 many_parts, 6 is_pattern_of, 7 want_pattern, 8 names_in, 9 is_pattern, 10 names_of, 11 _law_pot, 12 _law_draw, 13 _law_word, 14 _law_leaf, 15 _law_pattern, 16 _law_names, 17 _law_is_small, 18 _law_look, 19 _law_is_pattern, 20 _law_bent, 21 _law_wide, 22 _law_deep, 23 _law_values, 24 _law_right, 25 law -/
end La
namespace La
open Py
section
variable (par : Par)
abbrev sg (n f : Nat) (args : List Arg) : Option Py.CR := sig par fns n f args
theorem sg_of {f : Nat} {fn : Fn} (n : Nat) (args : List Arg) (h : fns[f]? = some fn) : sig par fns (n + 1) f args = runFn par (sig par fns n) fn args := by
  show (match fns[f]? with
    | some fn => runFn par (sig par fns n) fn args
    | none => none) = _
  rw [h]
def noScr : D → Bool
  | .scr _ => false
  | .obj _ _ => false
  | _ => true
def isI : D → Bool
  | .int _ => true
  | _ => false
def cnt : D → Bool
  | .int i => decide (0 ≤ i)
  | _ => false
theorem e_is_integer (n : Nat) (v : D) (h : noScr v = true) : sig par fns (n + 1) 0 [.v v] = some (.ret (.v (.bl (isI v))) []) := by
  rw [sg_of par n _ (fn := c_is_integer) rfl]
  cases v <;> first | (simp [noScr] at h; done) | simp [c_is_integer, isI, runFn, ioOk, slotOf, evSs, evS, evR, evAnd, evOr, evCs, evAs, evA, evEs, evRs, evIt, asP, fzR, readVar, movVar, R.bind, R.st, lift, frz, frzO, asBool, outsOf, resolve, binOp, cmpOp, idxOp, ixOf, slcOp, bnd, isNo, bndR, toArg, allSome, refsOf, putBack, permute, AV.isD, callIt, storeRV, storeRVs, asgT, asgTs, setOp, appOp, extOp, ownsL, p1Op, p2Op, isTys, isTy, bindT, setN, setNs, items, lcLoop, nox, hidable, slotsT, wipeS, backS, isOwn, isInS, D.ints, D.bools, D.cmpOk, D.plain, D.plainAll, D.depth, D.depthAll, D.eqv, D.eqvAll, b2i, isNon, cutL, clip, lim]
theorem e_is_count (n : Nat) (v : D) (h : noScr v = true) : sig par fns (n + 2) 1 [.v v] = some (.ret (.v (.bl (cnt v))) []) := by
  rw [sg_of par (n + 1) _ (fn := c_is_count) rfl]
  have e := e_is_integer par n v h
  cases v <;> first | (simp [noScr] at h; done) | simp [c_is_count, cnt, isI, runFn, ioOk, slotOf, evSs, evS, evR, evAnd, evOr, evCs, evAs, evA, evEs, evRs, evIt, asP, fzR, readVar, movVar, R.bind, R.st, lift, frz, frzO, asBool, outsOf, resolve, binOp, cmpOp, idxOp, ixOf, slcOp, bnd, isNo, bndR, toArg, allSome, refsOf, putBack, permute, AV.isD, callIt, storeRV, storeRVs, asgT, asgTs, setOp, appOp, extOp, ownsL, p1Op, p2Op, isTys, isTy, bindT, setN, setNs, items, lcLoop, nox, hidable, slotsT, wipeS, backS, isOwn, isInS, D.ints, D.bools, D.cmpOk, D.plain, D.plainAll, D.depth, D.depthAll, D.eqv, D.eqvAll, b2i, isNon, cutL, clip, lim, e]
theorem e_want_letters (n : Nat) (L : Int) (h1 : 1 ≤ L) (h2 : L ≤ 3) : sig par fns (n + 3) 2 [.v (.int L)] = some (.ret (.v .non) []) := by
  rw [sg_of par (n + 2) _ (fn := c_want_letters) rfl]
  have e := e_is_count par n (.int L) rfl
  have h0 : 0 ≤ L := by omega
  simp [c_want_letters, cnt, runFn, ioOk, slotOf, evSs, evS, evR, evAnd, evOr, evCs, evAs, evA, evEs, evRs, evIt, asP, fzR, readVar, movVar, R.bind, R.st, lift, frz, frzO, asBool, outsOf, resolve, binOp, cmpOp, idxOp, ixOf, slcOp, bnd, isNo, bndR, toArg, allSome, refsOf, putBack, permute, AV.isD, callIt, storeRV, storeRVs, asgT, asgTs, setOp, appOp, extOp, ownsL, p1Op, p2Op, isTys, isTy, bindT, setN, setNs, items, lcLoop, nox, hidable, slotsT, wipeS, backS, isOwn, isInS, D.ints, D.bools, D.cmpOk, D.plain, D.plainAll, D.depth, D.depthAll, D.eqv, D.eqvAll, b2i, isNon, cutL, clip, lim, e, h0, h1, h2]
def abc : List Nat := [97, 98, 99]
def sOk (L : Int) (s : List Nat) : Bool := s.all fun c => decide (c ∈ cutL abc none (some L))
def wOk (L : Int) : D → Bool
  | .str s => decide (s.length ≤ 60) && sOk L s
  | _ => false
theorem lc_map {turn : D → Env → R (Option D)} {g : D → D} {I : Env → Prop} : ∀ {ds : List D} {acc : List D} {e : Env}, (∀ d ∈ ds, ∀ e, I e → ∃ e', I e' ∧ turn d e = some (.ok (some (g d)) e')) → I e → acc.length + ds.length ≤ lim → ∃ e', I e' ∧ lcLoop turn ds e acc = some (.ok (acc ++ ds.map g) e')
  | [], acc, e, _, hI, _ => ⟨e, hI, by simp [lcLoop]⟩
  | d :: ds, acc, e, h, hI, hl => by
    obtain ⟨e1, h1, h2⟩ := h d List.mem_cons_self e hI
    rw [List.length_cons] at hl
    obtain ⟨e2, h3, h4⟩ := lc_map (ds := ds) (acc := acc ++ [g d]) (e := e1) (fun d' hd' => h d' (List.mem_cons_of_mem _ hd')) h1 (by rw [List.length_append, List.length_singleton]; omega)
    refine ⟨e2, h3, ?_⟩
    have hz : acc.length < lim := by omega
    simp [lcLoop, h2, R.bind, hz, h4]
theorem bools_map (f : Nat → Bool) : ∀ s : List Nat, D.bools (s.map fun c => D.bl (f c)) = some (s.map f)
  | [] => rfl
  | c :: s => by simp [D.bools, bools_map f s]
theorem ev_lc {Φ : Sig} {el : E} {t : T} {it : It} {cs : List E} {env e1 : Env} {ds : List D} {g : D → D} (I : Env → Prop) (h1 : evIt par Φ it env = some (.ok ds e1)) (hh : hidable (slotsT t) e1 = true)
    (h2 : ∀ d ∈ ds, ∀ e, I e → ∃ e', I e' ∧ nox ((bindT t d (wipeS (slotsT t) e)).bind fun _ e2 => (evCs par Φ cs e2).bind fun b e3 => if b then (fzR (evR par Φ el e3)).bind fun y e4 => some (.ok (some y) e4) else some (.ok none e3)) = some (.ok (some (g d)) e'))
    (hI : I e1) (hl : ds.length ≤ lim) (hb : ∀ e', I e' → backS (slotsT t) e1 e' = e1) : evR par Φ (.lc el t it cs) env = some (.ok (.o (.lst (ds.map g))) e1) := by
  obtain ⟨e', h3, h4⟩ := lc_map (acc := []) h2 hI (by simpa using hl)
  have z : evR par Φ (.lc el t it cs) env = (evIt par Φ it env).bind fun ds e1 => if hidable (slotsT t) e1 then (lcLoop (fun d e => nox ((bindT t d (wipeS (slotsT t) e)).bind fun _ e2 => (evCs par Φ cs e2).bind fun b e3 => if b then (fzR (evR par Φ el e3)).bind fun y e4 => some (.ok (some y) e4) else some (.ok none e3))) ds e1 []).bind fun ys e2 => some (.ok (.o (.lst ys)) (backS (slotsT t) e1 e2)) else none := by
    simp only [evR]
  rw [z, h1]
  show (if hidable (slotsT t) e1 = true then _ else _) = _
  rw [if_pos hh, h4]
  show some (Out.ok (RV.o (OD.lst ([] ++ ds.map g))) (backS (slotsT t) e1 e')) = _
  rw [hb e' h3, List.nil_append]
theorem e_is_word_of (n : Nat) (L : Int) (v : D) (h : noScr v = true) : sig par fns (n + 1) 3 [.v (.int L), .v v] = some (.ret (.v (.bl (wOk L v))) []) := by
  rw [sg_of par n _ (fn := c_is_word_of) rfl]
  cases v with
  | str s =>
    by_cases hl : s.length ≤ 60
    · have hl' : ¬ (60 : Int) < s.length := by omega
      have ev := ev_lc par (Φ := sig par fns n) (el := .cmp .isIn (.var 2) (.slc (.gl 0 (.str [97, 98, 99])) .no (.var 0))) (t := .n 2) (it := .e (.var 1)) (cs := []) (env := [.fz (.int L), .fz (.str s), .un]) (e1 := [.fz (.int L), .fz (.str s), .un])
        (g := fun d => match d with | .str [c] => .bl (decide (c ∈ cutL abc none (some L))) | _ => .non) (fun e => ∃ x, e = [.fz (.int L), .fz (.str s), x]) (ds := s.map fun c => D.str [c]) (by simp [runFn, ioOk, slotOf, evSs, evS, evR, evAnd, evOr, evCs, evAs, evA, evEs, evRs, evIt, asP, fzR, readVar, movVar, R.bind, R.st, lift, frz, frzO, asBool, outsOf, resolve, binOp, cmpOp, idxOp, ixOf, slcOp, bnd, isNo, bndR, toArg, allSome, refsOf, putBack, permute, AV.isD, callIt, storeRV, storeRVs, asgT, asgTs, setOp, appOp, extOp, ownsL, p1Op, p2Op, isTys, isTy, bindT, setN, setNs, items, lcLoop, nox, hidable, slotsT, wipeS, backS, isOwn, isInS, D.ints, D.bools, D.cmpOk, D.plain, D.plainAll, D.depth, D.depthAll, D.eqv, D.eqvAll, b2i, isNon, cutL, clip, lim]) rfl
        (by
          intro d hd e ⟨x, he⟩
          obtain ⟨c, _, rfl⟩ := List.mem_map.mp hd
          subst he
          exact ⟨[.fz (.int L), .fz (.str s), .fz (.str [c])], ⟨_, rfl⟩, by simp [runFn, ioOk, slotOf, evSs, evS, evR, evAnd, evOr, evCs, evAs, evA, evEs, evRs, evIt, asP, fzR, readVar, movVar, R.bind, R.st, lift, frz, frzO, asBool, outsOf, resolve, binOp, cmpOp, idxOp, ixOf, slcOp, bnd, isNo, bndR, toArg, allSome, refsOf, putBack, permute, AV.isD, callIt, storeRV, storeRVs, asgT, asgTs, setOp, appOp, extOp, ownsL, p1Op, p2Op, isTys, isTy, bindT, setN, setNs, items, lcLoop, nox, hidable, slotsT, wipeS, backS, isOwn, isInS, D.ints, D.bools, D.cmpOk, D.plain, D.plainAll, D.depth, D.depthAll, D.eqv, D.eqvAll, b2i, isNon, cutL, clip, lim, abc]⟩) ⟨_, rfl⟩ (by simp [lim]; omega) (by rintro e' ⟨x, rfl⟩; rfl)
      simp only [List.map_map, Function.comp_def] at ev
      simp [c_is_word_of, ↓ev, runFn, ioOk, slotOf, evSs, evS, evR, evAnd, evOr, evCs, evAs, evA, evEs, evRs, evIt, asP, fzR, readVar, movVar, R.bind, R.st, lift, frz, frzO, asBool, outsOf, resolve, binOp, cmpOp, idxOp, ixOf, slcOp, bnd, isNo, bndR, toArg, allSome, refsOf, putBack, permute, AV.isD, callIt, storeRV, storeRVs, asgT, asgTs, setOp, appOp, extOp, ownsL, p1Op, p2Op, isTys, isTy, bindT, setN, setNs, items, lcLoop, nox, hidable, slotsT, wipeS, backS, isOwn, isInS, D.ints, D.bools, D.cmpOk, D.plain, D.plainAll, D.depth, D.depthAll, D.eqv, D.eqvAll, b2i, isNon, cutL, clip, lim, hl', hl, wOk, sOk, bools_map, List.all_map, Function.comp_def]
    · have hl' : (60 : Int) < s.length := by omega
      simp [c_is_word_of, runFn, ioOk, slotOf, evSs, evS, evR, evAnd, evOr, evCs, evAs, evA, evEs, evRs, evIt, asP, fzR, readVar, movVar, R.bind, R.st, lift, frz, frzO, asBool, outsOf, resolve, binOp, cmpOp, idxOp, ixOf, slcOp, bnd, isNo, bndR, toArg, allSome, refsOf, putBack, permute, AV.isD, callIt, storeRV, storeRVs, asgT, asgTs, setOp, appOp, extOp, ownsL, p1Op, p2Op, isTys, isTy, bindT, setN, setNs, items, lcLoop, nox, hidable, slotsT, wipeS, backS, isOwn, isInS, D.ints, D.bools, D.cmpOk, D.plain, D.plainAll, D.depth, D.depthAll, D.eqv, D.eqvAll, b2i, isNon, cutL, clip, lim, hl', wOk, hl]
  | scr => cases h
  | obj => cases h
  | _ => simp [c_is_word_of, runFn, ioOk, slotOf, evSs, evS, evR, evAnd, evOr, evCs, evAs, evA, evEs, evRs, evIt, asP, fzR, readVar, movVar, R.bind, R.st, lift, frz, frzO, asBool, outsOf, resolve, binOp, cmpOp, idxOp, ixOf, slcOp, bnd, isNo, bndR, toArg, allSome, refsOf, putBack, permute, AV.isD, callIt, storeRV, storeRVs, asgT, asgTs, setOp, appOp, extOp, ownsL, p1Op, p2Op, isTys, isTy, bindT, setN, setNs, items, lcLoop, nox, hidable, slotsT, wipeS, backS, isOwn, isInS, D.ints, D.bools, D.cmpOk, D.plain, D.plainAll, D.depth, D.depthAll, D.eqv, D.eqvAll, b2i, isNon, cutL, clip, lim, wOk]
def nOk : D → Bool
  | .int i => decide (0 ≤ i) && decide (i ≤ 2)
  | _ => false
theorem e_is_name_number (n : Nat) (v : D) (h : noScr v = true) : sig par fns (n + 3) 4 [.v v] = some (.ret (.v (.bl (nOk v))) []) := by
  rw [sg_of par (n + 2) _ (fn := c_is_name_number) rfl]
  have e := e_is_count par n v h
  cases v with
  | int i =>
    by_cases h0 : 0 ≤ i
    · simp [c_is_name_number, cnt, nOk, runFn, ioOk, slotOf, evSs, evS, evR, evAnd, evOr, evCs, evAs, evA, evEs, evRs, evIt, asP, fzR, readVar, movVar, R.bind, R.st, lift, frz, frzO, asBool, outsOf, resolve, binOp, cmpOp, idxOp, ixOf, slcOp, bnd, isNo, bndR, toArg, allSome, refsOf, putBack, permute, AV.isD, callIt, storeRV, storeRVs, asgT, asgTs, setOp, appOp, extOp, ownsL, p1Op, p2Op, isTys, isTy, bindT, setN, setNs, items, lcLoop, nox, hidable, slotsT, wipeS, backS, isOwn, isInS, D.ints, D.bools, D.cmpOk, D.plain, D.plainAll, D.depth, D.depthAll, D.eqv, D.eqvAll, b2i, isNon, cutL, clip, lim, e, h0]
    · simp [c_is_name_number, cnt, nOk, runFn, ioOk, slotOf, evSs, evS, evR, evAnd, evOr, evCs, evAs, evA, evEs, evRs, evIt, asP, fzR, readVar, movVar, R.bind, R.st, lift, frz, frzO, asBool, outsOf, resolve, binOp, cmpOp, idxOp, ixOf, slcOp, bnd, isNo, bndR, toArg, allSome, refsOf, putBack, permute, AV.isD, callIt, storeRV, storeRVs, asgT, asgTs, setOp, appOp, extOp, ownsL, p1Op, p2Op, isTys, isTy, bindT, setN, setNs, items, lcLoop, nox, hidable, slotsT, wipeS, backS, isOwn, isInS, D.ints, D.bools, D.cmpOk, D.plain, D.plainAll, D.depth, D.depthAll, D.eqv, D.eqvAll, b2i, isNon, cutL, clip, lim, e, h0]
  | scr => cases h
  | obj => cases h
  | _ => simp [c_is_name_number, cnt, nOk, runFn, ioOk, slotOf, evSs, evS, evR, evAnd, evOr, evCs, evAs, evA, evEs, evRs, evIt, asP, fzR, readVar, movVar, R.bind, R.st, lift, frz, frzO, asBool, outsOf, resolve, binOp, cmpOp, idxOp, ixOf, slcOp, bnd, isNo, bndR, toArg, allSome, refsOf, putBack, permute, AV.isD, callIt, storeRV, storeRVs, asgT, asgTs, setOp, appOp, extOp, ownsL, p1Op, p2Op, isTys, isTy, bindT, setN, setNs, items, lcLoop, nox, hidable, slotsT, wipeS, backS, isOwn, isInS, D.ints, D.bools, D.cmpOk, D.plain, D.plainAll, D.depth, D.depthAll, D.eqv, D.eqvAll, b2i, isNon, cutL, clip, lim, e]
end
end La

namespace La
open Py
abbrev sWord : List Nat := [119, 111, 114, 100]
abbrev sName : List Nat := [110, 97, 109, 101]
abbrev sBehind : List Nat := [98, 101, 104, 105, 110, 100]
abbrev sEither : List Nat := [101, 105, 116, 104, 101, 114]
abbrev sRound : List Nat := [114, 111, 117, 110, 100]
/-- how many parts; w: what is wrong counts -/
def parts (w : Int) (L : Int) : Nat → D → Int
  | 0, _ => w
  | d + 1, .tup [.str k, x] => if k = sWord then (if wOk L x then 1 else w) else if k = sName then (if nOk x then 1 else w) else if k = sRound then 1 + parts w L d x else w
  | d + 1, .tup [.str k, x, y] => if k = sBehind ∨ k = sEither then 1 + (parts w L d x + parts w L d y) else w
  | _ + 1, _ => w
mutual
/-- no script, no instance within -/
def clean : D → Bool
  | .scr _ => false
  | .obj _ _ => false
  | .lst xs => cleanAll xs
  | .tup xs => cleanAll xs
  | _ => true
def cleanAll : List D → Bool
  | [] => true
  | x :: xs => clean x && cleanAll xs
end
theorem clean_ns {v : D} (h : clean v = true) : noScr v = true := by
  cases v <;> first | rfl | (simp [clean] at h)
section
variable (par : Par)
theorem e_many (L : Int) : ∀ (d m : Nat) (v : D), clean v = true → sig par fns (m + d + 4) 5 [.v (.int L), .v v, .v (.int d)] = some (.ret (.v (.int (parts 31 L d v))) [])
  | 0, m, v, h => by
    rw [sg_of par (m + 0 + 3) _ (fn := c_many_parts) rfl]
    simp [c_many_parts, runFn, ioOk, slotOf, evSs, evS, evR, evAnd, evOr, evCs, evAs, evA, evEs, evRs, evIt, asP, fzR, readVar, movVar, R.bind, R.st, lift, frz, frzO, asBool, outsOf, resolve, binOp, cmpOp, idxOp, ixOf, slcOp, bnd, isNo, bndR, toArg, allSome, refsOf, putBack, permute, AV.isD, callIt, storeRV, storeRVs, asgT, asgTs, setOp, appOp, extOp, ownsL, p1Op, p2Op, isTys, isTy, bindT, setN, setNs, items, lcLoop, nox, hidable, slotsT, wipeS, backS, isOwn, isInS, D.ints, D.bools, D.cmpOk, D.plain, D.plainAll, D.depth, D.depthAll, D.eqv, D.eqvAll, b2i, isNon, cutL, clip, lim, parts]
  | d + 1, m, v, h => by
    rw [sg_of par (m + (d + 1) + 3) _ (fn := c_many_parts) rfl]
    have hd : ¬ ((d : Int) + 1 = 0) := by omega
    have ih := e_many L d m
    have e0 : m + (d + 1) + 3 = m + d + 4 := by omega
    rw [e0]
    have ew : ∀ x, noScr x = true → sig par fns (m + d + 4) 3 [.v (.int L), .v x] = some (.ret (.v (.bl (wOk L x))) []) := fun x hx => e_is_word_of par (m + d + 3) L x hx
    have en : ∀ x, noScr x = true → sig par fns (m + d + 4) 4 [.v x] = some (.ret (.v (.bl (nOk x))) []) := fun x hx => e_is_name_number par (m + d + 1) x hx
    have el : (d : Int) + 1 - 1 = d := by omega
    cases v with
    | tup xs =>
      match xs, h with
      | [], h => simp [c_many_parts, runFn, ioOk, slotOf, evSs, evS, evR, evAnd, evOr, evCs, evAs, evA, evEs, evRs, evIt, asP, fzR, readVar, movVar, R.bind, R.st, lift, frz, frzO, asBool, outsOf, resolve, binOp, cmpOp, idxOp, ixOf, slcOp, bnd, isNo, bndR, toArg, allSome, refsOf, putBack, permute, AV.isD, callIt, storeRV, storeRVs, asgT, asgTs, setOp, appOp, extOp, ownsL, p1Op, p2Op, isTys, isTy, bindT, setN, setNs, items, lcLoop, nox, hidable, slotsT, wipeS, backS, isOwn, isInS, D.ints, D.bools, D.cmpOk, D.plain, D.plainAll, D.depth, D.depthAll, D.eqv, D.eqvAll, b2i, isNon, cutL, clip, lim, parts, hd]
      | [k], h => simp [c_many_parts, runFn, ioOk, slotOf, evSs, evS, evR, evAnd, evOr, evCs, evAs, evA, evEs, evRs, evIt, asP, fzR, readVar, movVar, R.bind, R.st, lift, frz, frzO, asBool, outsOf, resolve, binOp, cmpOp, idxOp, ixOf, slcOp, bnd, isNo, bndR, toArg, allSome, refsOf, putBack, permute, AV.isD, callIt, storeRV, storeRVs, asgT, asgTs, setOp, appOp, extOp, ownsL, p1Op, p2Op, isTys, isTy, bindT, setN, setNs, items, lcLoop, nox, hidable, slotsT, wipeS, backS, isOwn, isInS, D.ints, D.bools, D.cmpOk, D.plain, D.plainAll, D.depth, D.depthAll, D.eqv, D.eqvAll, b2i, isNon, cutL, clip, lim, parts, hd]
      | [k, x], h =>
        simp only [clean, cleanAll, Bool.and_eq_true] at h
        obtain ⟨hk, hx, _⟩ := h
        cases k with
        | str k =>
          by_cases h1 : k = sWord
          · subst h1
            cases hw : wOk L x <;> simp [c_many_parts, runFn, ioOk, slotOf, evSs, evS, evR, evAnd, evOr, evCs, evAs, evA, evEs, evRs, evIt, asP, fzR, readVar, movVar, R.bind, R.st, lift, frz, frzO, asBool, outsOf, resolve, binOp, cmpOp, idxOp, ixOf, slcOp, bnd, isNo, bndR, toArg, allSome, refsOf, putBack, permute, AV.isD, callIt, storeRV, storeRVs, asgT, asgTs, setOp, appOp, extOp, ownsL, p1Op, p2Op, isTys, isTy, bindT, setN, setNs, items, lcLoop, nox, hidable, slotsT, wipeS, backS, isOwn, isInS, D.ints, D.bools, D.cmpOk, D.plain, D.plainAll, D.depth, D.depthAll, D.eqv, D.eqvAll, b2i, isNon, cutL, clip, lim, parts, hd, ew x (clean_ns hx), hw]
          · by_cases h2 : k = sName
            · subst h2
              cases hw : nOk x <;> simp [c_many_parts, runFn, ioOk, slotOf, evSs, evS, evR, evAnd, evOr, evCs, evAs, evA, evEs, evRs, evIt, asP, fzR, readVar, movVar, R.bind, R.st, lift, frz, frzO, asBool, outsOf, resolve, binOp, cmpOp, idxOp, ixOf, slcOp, bnd, isNo, bndR, toArg, allSome, refsOf, putBack, permute, AV.isD, callIt, storeRV, storeRVs, asgT, asgTs, setOp, appOp, extOp, ownsL, p1Op, p2Op, isTys, isTy, bindT, setN, setNs, items, lcLoop, nox, hidable, slotsT, wipeS, backS, isOwn, isInS, D.ints, D.bools, D.cmpOk, D.plain, D.plainAll, D.depth, D.depthAll, D.eqv, D.eqvAll, b2i, isNon, cutL, clip, lim, parts, hd, en x (clean_ns hx), hw]
            · by_cases h3 : k = sRound
              · subst h3
                simp [c_many_parts, runFn, ioOk, slotOf, evSs, evS, evR, evAnd, evOr, evCs, evAs, evA, evEs, evRs, evIt, asP, fzR, readVar, movVar, R.bind, R.st, lift, frz, frzO, asBool, outsOf, resolve, binOp, cmpOp, idxOp, ixOf, slcOp, bnd, isNo, bndR, toArg, allSome, refsOf, putBack, permute, AV.isD, callIt, storeRV, storeRVs, asgT, asgTs, setOp, appOp, extOp, ownsL, p1Op, p2Op, isTys, isTy, bindT, setN, setNs, items, lcLoop, nox, hidable, slotsT, wipeS, backS, isOwn, isInS, D.ints, D.bools, D.cmpOk, D.plain, D.plainAll, D.depth, D.depthAll, D.eqv, D.eqvAll, b2i, isNon, cutL, clip, lim, parts, hd, el, ih x hx]
              · by_cases h4 : k = sBehind
                · subst h4
                  simp [c_many_parts, runFn, ioOk, slotOf, evSs, evS, evR, evAnd, evOr, evCs, evAs, evA, evEs, evRs, evIt, asP, fzR, readVar, movVar, R.bind, R.st, lift, frz, frzO, asBool, outsOf, resolve, binOp, cmpOp, idxOp, ixOf, slcOp, bnd, isNo, bndR, toArg, allSome, refsOf, putBack, permute, AV.isD, callIt, storeRV, storeRVs, asgT, asgTs, setOp, appOp, extOp, ownsL, p1Op, p2Op, isTys, isTy, bindT, setN, setNs, items, lcLoop, nox, hidable, slotsT, wipeS, backS, isOwn, isInS, D.ints, D.bools, D.cmpOk, D.plain, D.plainAll, D.depth, D.depthAll, D.eqv, D.eqvAll, b2i, isNon, cutL, clip, lim, parts, hd]
                · by_cases h5 : k = sEither
                  · subst h5
                    simp [c_many_parts, runFn, ioOk, slotOf, evSs, evS, evR, evAnd, evOr, evCs, evAs, evA, evEs, evRs, evIt, asP, fzR, readVar, movVar, R.bind, R.st, lift, frz, frzO, asBool, outsOf, resolve, binOp, cmpOp, idxOp, ixOf, slcOp, bnd, isNo, bndR, toArg, allSome, refsOf, putBack, permute, AV.isD, callIt, storeRV, storeRVs, asgT, asgTs, setOp, appOp, extOp, ownsL, p1Op, p2Op, isTys, isTy, bindT, setN, setNs, items, lcLoop, nox, hidable, slotsT, wipeS, backS, isOwn, isInS, D.ints, D.bools, D.cmpOk, D.plain, D.plainAll, D.depth, D.depthAll, D.eqv, D.eqvAll, b2i, isNon, cutL, clip, lim, parts, hd]
                  · have g1 : ¬ sWord = k := fun z => h1 z.symm
                    have g2 : ¬ sName = k := fun z => h2 z.symm
                    have g3 : ¬ sRound = k := fun z => h3 z.symm
                    have g4 : ¬ sBehind = k := fun z => h4 z.symm
                    have g5 : ¬ sEither = k := fun z => h5 z.symm
                    simp [c_many_parts, runFn, ioOk, slotOf, evSs, evS, evR, evAnd, evOr, evCs, evAs, evA, evEs, evRs, evIt, asP, fzR, readVar, movVar, R.bind, R.st, lift, frz, frzO, asBool, outsOf, resolve, binOp, cmpOp, idxOp, ixOf, slcOp, bnd, isNo, bndR, toArg, allSome, refsOf, putBack, permute, AV.isD, callIt, storeRV, storeRVs, asgT, asgTs, setOp, appOp, extOp, ownsL, p1Op, p2Op, isTys, isTy, bindT, setN, setNs, items, lcLoop, nox, hidable, slotsT, wipeS, backS, isOwn, isInS, D.ints, D.bools, D.cmpOk, D.plain, D.plainAll, D.depth, D.depthAll, D.eqv, D.eqvAll, b2i, isNon, cutL, clip, lim, parts, hd, h1, h2, h3, h4, h5, g1, g2, g3, g4, g5]
        | scr => cases hk
        | obj => cases hk
        | _ => simp [c_many_parts, runFn, ioOk, slotOf, evSs, evS, evR, evAnd, evOr, evCs, evAs, evA, evEs, evRs, evIt, asP, fzR, readVar, movVar, R.bind, R.st, lift, frz, frzO, asBool, outsOf, resolve, binOp, cmpOp, idxOp, ixOf, slcOp, bnd, isNo, bndR, toArg, allSome, refsOf, putBack, permute, AV.isD, callIt, storeRV, storeRVs, asgT, asgTs, setOp, appOp, extOp, ownsL, p1Op, p2Op, isTys, isTy, bindT, setN, setNs, items, lcLoop, nox, hidable, slotsT, wipeS, backS, isOwn, isInS, D.ints, D.bools, D.cmpOk, D.plain, D.plainAll, D.depth, D.depthAll, D.eqv, D.eqvAll, b2i, isNon, cutL, clip, lim, parts, hd]
      | [k, x, y], h =>
        simp only [clean, cleanAll, Bool.and_eq_true] at h
        obtain ⟨hk, hx, hy, _⟩ := h
        cases k with
        | str k =>
          by_cases h1 : k = sWord
          · subst h1
            simp [c_many_parts, runFn, ioOk, slotOf, evSs, evS, evR, evAnd, evOr, evCs, evAs, evA, evEs, evRs, evIt, asP, fzR, readVar, movVar, R.bind, R.st, lift, frz, frzO, asBool, outsOf, resolve, binOp, cmpOp, idxOp, ixOf, slcOp, bnd, isNo, bndR, toArg, allSome, refsOf, putBack, permute, AV.isD, callIt, storeRV, storeRVs, asgT, asgTs, setOp, appOp, extOp, ownsL, p1Op, p2Op, isTys, isTy, bindT, setN, setNs, items, lcLoop, nox, hidable, slotsT, wipeS, backS, isOwn, isInS, D.ints, D.bools, D.cmpOk, D.plain, D.plainAll, D.depth, D.depthAll, D.eqv, D.eqvAll, b2i, isNon, cutL, clip, lim, parts, hd]
          · by_cases h2 : k = sName
            · subst h2
              simp [c_many_parts, runFn, ioOk, slotOf, evSs, evS, evR, evAnd, evOr, evCs, evAs, evA, evEs, evRs, evIt, asP, fzR, readVar, movVar, R.bind, R.st, lift, frz, frzO, asBool, outsOf, resolve, binOp, cmpOp, idxOp, ixOf, slcOp, bnd, isNo, bndR, toArg, allSome, refsOf, putBack, permute, AV.isD, callIt, storeRV, storeRVs, asgT, asgTs, setOp, appOp, extOp, ownsL, p1Op, p2Op, isTys, isTy, bindT, setN, setNs, items, lcLoop, nox, hidable, slotsT, wipeS, backS, isOwn, isInS, D.ints, D.bools, D.cmpOk, D.plain, D.plainAll, D.depth, D.depthAll, D.eqv, D.eqvAll, b2i, isNon, cutL, clip, lim, parts, hd]
            · by_cases h3 : k = sRound
              · subst h3
                simp [c_many_parts, runFn, ioOk, slotOf, evSs, evS, evR, evAnd, evOr, evCs, evAs, evA, evEs, evRs, evIt, asP, fzR, readVar, movVar, R.bind, R.st, lift, frz, frzO, asBool, outsOf, resolve, binOp, cmpOp, idxOp, ixOf, slcOp, bnd, isNo, bndR, toArg, allSome, refsOf, putBack, permute, AV.isD, callIt, storeRV, storeRVs, asgT, asgTs, setOp, appOp, extOp, ownsL, p1Op, p2Op, isTys, isTy, bindT, setN, setNs, items, lcLoop, nox, hidable, slotsT, wipeS, backS, isOwn, isInS, D.ints, D.bools, D.cmpOk, D.plain, D.plainAll, D.depth, D.depthAll, D.eqv, D.eqvAll, b2i, isNon, cutL, clip, lim, parts, hd]
              · by_cases h4 : k = sBehind
                · subst h4
                  simp [c_many_parts, runFn, ioOk, slotOf, evSs, evS, evR, evAnd, evOr, evCs, evAs, evA, evEs, evRs, evIt, asP, fzR, readVar, movVar, R.bind, R.st, lift, frz, frzO, asBool, outsOf, resolve, binOp, cmpOp, idxOp, ixOf, slcOp, bnd, isNo, bndR, toArg, allSome, refsOf, putBack, permute, AV.isD, callIt, storeRV, storeRVs, asgT, asgTs, setOp, appOp, extOp, ownsL, p1Op, p2Op, isTys, isTy, bindT, setN, setNs, items, lcLoop, nox, hidable, slotsT, wipeS, backS, isOwn, isInS, D.ints, D.bools, D.cmpOk, D.plain, D.plainAll, D.depth, D.depthAll, D.eqv, D.eqvAll, b2i, isNon, cutL, clip, lim, parts, hd, el, ih x hx, ih y hy]
                · by_cases h5 : k = sEither
                  · subst h5
                    simp [c_many_parts, runFn, ioOk, slotOf, evSs, evS, evR, evAnd, evOr, evCs, evAs, evA, evEs, evRs, evIt, asP, fzR, readVar, movVar, R.bind, R.st, lift, frz, frzO, asBool, outsOf, resolve, binOp, cmpOp, idxOp, ixOf, slcOp, bnd, isNo, bndR, toArg, allSome, refsOf, putBack, permute, AV.isD, callIt, storeRV, storeRVs, asgT, asgTs, setOp, appOp, extOp, ownsL, p1Op, p2Op, isTys, isTy, bindT, setN, setNs, items, lcLoop, nox, hidable, slotsT, wipeS, backS, isOwn, isInS, D.ints, D.bools, D.cmpOk, D.plain, D.plainAll, D.depth, D.depthAll, D.eqv, D.eqvAll, b2i, isNon, cutL, clip, lim, parts, hd, el, ih x hx, ih y hy]
                  · have g1 : ¬ sWord = k := fun z => h1 z.symm
                    have g2 : ¬ sName = k := fun z => h2 z.symm
                    have g3 : ¬ sRound = k := fun z => h3 z.symm
                    have g4 : ¬ sBehind = k := fun z => h4 z.symm
                    have g5 : ¬ sEither = k := fun z => h5 z.symm
                    simp [c_many_parts, runFn, ioOk, slotOf, evSs, evS, evR, evAnd, evOr, evCs, evAs, evA, evEs, evRs, evIt, asP, fzR, readVar, movVar, R.bind, R.st, lift, frz, frzO, asBool, outsOf, resolve, binOp, cmpOp, idxOp, ixOf, slcOp, bnd, isNo, bndR, toArg, allSome, refsOf, putBack, permute, AV.isD, callIt, storeRV, storeRVs, asgT, asgTs, setOp, appOp, extOp, ownsL, p1Op, p2Op, isTys, isTy, bindT, setN, setNs, items, lcLoop, nox, hidable, slotsT, wipeS, backS, isOwn, isInS, D.ints, D.bools, D.cmpOk, D.plain, D.plainAll, D.depth, D.depthAll, D.eqv, D.eqvAll, b2i, isNon, cutL, clip, lim, parts, hd, h1, h2, h3, h4, h5, g1, g2, g3, g4, g5]
        | scr => cases hk
        | obj => cases hk
        | _ => simp [c_many_parts, runFn, ioOk, slotOf, evSs, evS, evR, evAnd, evOr, evCs, evAs, evA, evEs, evRs, evIt, asP, fzR, readVar, movVar, R.bind, R.st, lift, frz, frzO, asBool, outsOf, resolve, binOp, cmpOp, idxOp, ixOf, slcOp, bnd, isNo, bndR, toArg, allSome, refsOf, putBack, permute, AV.isD, callIt, storeRV, storeRVs, asgT, asgTs, setOp, appOp, extOp, ownsL, p1Op, p2Op, isTys, isTy, bindT, setN, setNs, items, lcLoop, nox, hidable, slotsT, wipeS, backS, isOwn, isInS, D.ints, D.bools, D.cmpOk, D.plain, D.plainAll, D.depth, D.depthAll, D.eqv, D.eqvAll, b2i, isNon, cutL, clip, lim, parts, hd]
      | k :: x :: y :: z :: r, h =>
        have l2 : ¬ ((r.length : Int) + 1 + 1 + 1 + 1 = 2) := by omega
        have l3 : ¬ ((r.length : Int) + 1 + 1 + 1 + 1 = 3) := by omega
        have l2' : ¬ (2 = (r.length : Int) + 1 + 1 + 1 + 1) := by omega
        have l3' : ¬ (3 = (r.length : Int) + 1 + 1 + 1 + 1) := by omega
        simp [c_many_parts, runFn, ioOk, slotOf, evSs, evS, evR, evAnd, evOr, evCs, evAs, evA, evEs, evRs, evIt, asP, fzR, readVar, movVar, R.bind, R.st, lift, frz, frzO, asBool, outsOf, resolve, binOp, cmpOp, idxOp, ixOf, slcOp, bnd, isNo, bndR, toArg, allSome, refsOf, putBack, permute, AV.isD, callIt, storeRV, storeRVs, asgT, asgTs, setOp, appOp, extOp, ownsL, p1Op, p2Op, isTys, isTy, bindT, setN, setNs, items, lcLoop, nox, hidable, slotsT, wipeS, backS, isOwn, isInS, D.ints, D.bools, D.cmpOk, D.plain, D.plainAll, D.depth, D.depthAll, D.eqv, D.eqvAll, b2i, isNon, cutL, clip, lim, parts, hd, l2, l3, l2', l3']
    | scr => cases h
    | obj => cases h
    | _ => simp [c_many_parts, runFn, ioOk, slotOf, evSs, evS, evR, evAnd, evOr, evCs, evAs, evA, evEs, evRs, evIt, asP, fzR, readVar, movVar, R.bind, R.st, lift, frz, frzO, asBool, outsOf, resolve, binOp, cmpOp, idxOp, ixOf, slcOp, bnd, isNo, bndR, toArg, allSome, refsOf, putBack, permute, AV.isD, callIt, storeRV, storeRVs, asgT, asgTs, setOp, appOp, extOp, ownsL, p1Op, p2Op, isTys, isTy, bindT, setN, setNs, items, lcLoop, nox, hidable, slotsT, wipeS, backS, isOwn, isInS, D.ints, D.bools, D.cmpOk, D.plain, D.plainAll, D.depth, D.depthAll, D.eqv, D.eqvAll, b2i, isNon, cutL, clip, lim, parts, hd]
end
end La

namespace La
open Py
section
variable (par : Par)
theorem e_is_small (n : Nat) (v : D) (h : noScr v = true) : sig par fns (n + 1) 17 [.v v, .v (.int 2)] = some (.ret (.v (.bl (nOk v))) []) := by
  rw [sg_of par n _ (fn := c__law_is_small) rfl]
  cases v with
  | int i =>
    by_cases h0 : 0 ≤ i
    · simp [c__law_is_small, nOk, runFn, ioOk, slotOf, evSs, evS, evR, evAnd, evOr, evCs, evAs, evA, evEs, evRs, evIt, asP, fzR, readVar, movVar, R.bind, R.st, lift, frz, frzO, asBool, outsOf, resolve, binOp, cmpOp, idxOp, ixOf, slcOp, bnd, isNo, bndR, toArg, allSome, refsOf, putBack, permute, AV.isD, callIt, storeRV, storeRVs, asgT, asgTs, setOp, appOp, extOp, ownsL, p1Op, p2Op, isTys, isTy, bindT, setN, setNs, items, lcLoop, nox, hidable, slotsT, wipeS, backS, isOwn, isInS, D.ints, D.bools, D.cmpOk, D.plain, D.plainAll, D.depth, D.depthAll, D.eqv, D.eqvAll, b2i, isNon, cutL, clip, lim, h0]
    · simp [c__law_is_small, nOk, runFn, ioOk, slotOf, evSs, evS, evR, evAnd, evOr, evCs, evAs, evA, evEs, evRs, evIt, asP, fzR, readVar, movVar, R.bind, R.st, lift, frz, frzO, asBool, outsOf, resolve, binOp, cmpOp, idxOp, ixOf, slcOp, bnd, isNo, bndR, toArg, allSome, refsOf, putBack, permute, AV.isD, callIt, storeRV, storeRVs, asgT, asgTs, setOp, appOp, extOp, ownsL, p1Op, p2Op, isTys, isTy, bindT, setN, setNs, items, lcLoop, nox, hidable, slotsT, wipeS, backS, isOwn, isInS, D.ints, D.bools, D.cmpOk, D.plain, D.plainAll, D.depth, D.depthAll, D.eqv, D.eqvAll, b2i, isNon, cutL, clip, lim, h0]
  | scr => cases h
  | obj => cases h
  | _ => simp [c__law_is_small, nOk, runFn, ioOk, slotOf, evSs, evS, evR, evAnd, evOr, evCs, evAs, evA, evEs, evRs, evIt, asP, fzR, readVar, movVar, R.bind, R.st, lift, frz, frzO, asBool, outsOf, resolve, binOp, cmpOp, idxOp, ixOf, slcOp, bnd, isNo, bndR, toArg, allSome, refsOf, putBack, permute, AV.isD, callIt, storeRV, storeRVs, asgT, asgTs, setOp, appOp, extOp, ownsL, p1Op, p2Op, isTys, isTy, bindT, setN, setNs, items, lcLoop, nox, hidable, slotsT, wipeS, backS, isOwn, isInS, D.ints, D.bools, D.cmpOk, D.plain, D.plainAll, D.depth, D.depthAll, D.eqv, D.eqvAll, b2i, isNon, cutL, clip, lim]
def inAbc (L : Int) (c : Nat) : Bool := decide (c ∈ cutL abc none (some L))
theorem all_in (L : Int) (s : List Nat) : (s.map (inAbc L)).all id = sOk L s := by
  unfold sOk inAbc
  rw [List.all_map]
  rfl
theorem bools_in (L : Int) (s : List Nat) : D.bools (s.map fun c => D.bl (inAbc L c)) = some (s.map (inAbc L)) := by
  rw [bools_map]
/-- the comprehension over a word's signs -/
theorem ev_signs {Φ : Sig} (L : Int) (s : List Nat) (hl : s.length ≤ 60) (a b c d e f : Slot) (it : It) (h1 : evIt par Φ it [.fz (.int L), a, b, c, d, e, f] = some (.ok (s.map fun c => D.str [c]) [.fz (.int L), a, b, c, d, e, f])) (he : isOwn e = false) :
    evR par Φ (.lc (.cmp .isIn (.var 5) (.slc (.cst (.str [97, 98, 99])) .no (.var 0))) (.n 5) it []) [.fz (.int L), a, b, c, d, e, f] = some (.ok (.o (.lst (s.map fun c => D.bl (inAbc L c)))) [.fz (.int L), a, b, c, d, e, f]) := by
  have ev := ev_lc par (Φ := Φ) (el := .cmp .isIn (.var 5) (.slc (.cst (.str [97, 98, 99])) .no (.var 0))) (t := .n 5) (it := it) (cs := []) (env := [.fz (.int L), a, b, c, d, e, f]) (e1 := [.fz (.int L), a, b, c, d, e, f])
    (g := fun d => match d with | .str [c] => .bl (decide (c ∈ cutL abc none (some L))) | _ => .non) (fun en => ∃ x, en = [.fz (.int L), a, b, c, d, x, f]) (ds := s.map fun c => D.str [c]) h1 (by simp [hidable, slotsT, he])
    (by
      intro dd hd en ⟨x, he⟩
      obtain ⟨z, _, rfl⟩ := List.mem_map.mp hd
      subst he
      exact ⟨[.fz (.int L), a, b, c, d, .fz (.str [z]), f], ⟨_, rfl⟩, by simp [runFn, ioOk, slotOf, evSs, evS, evR, evAnd, evOr, evCs, evAs, evA, evEs, evRs, evIt, asP, fzR, readVar, movVar, R.bind, R.st, lift, frz, frzO, asBool, outsOf, resolve, binOp, cmpOp, idxOp, ixOf, slcOp, bnd, isNo, bndR, toArg, allSome, refsOf, putBack, permute, AV.isD, callIt, storeRV, storeRVs, asgT, asgTs, setOp, appOp, extOp, ownsL, p1Op, p2Op, isTys, isTy, bindT, setN, setNs, items, lcLoop, nox, hidable, slotsT, wipeS, backS, isOwn, isInS, D.ints, D.bools, D.cmpOk, D.plain, D.plainAll, D.depth, D.depthAll, D.eqv, D.eqvAll, b2i, isNon, cutL, clip, lim, abc]⟩) ⟨_, rfl⟩ (by simp [lim]; omega) (by rintro e' ⟨x, rfl⟩; rfl)
  simp only [List.map_map, Function.comp_def] at ev
  exact ev
theorem e_look (L : Int) : ∀ (d m : Nat) (v : D), clean v = true → sig par fns (m + d + 2) 18 [.v (.int L), .v v, .v (.int d)] = some (.ret (.v (.int (parts 99 L d v))) [])
  | 0, m, v, h => by
    rw [sg_of par (m + 0 + 1) _ (fn := c__law_look) rfl]
    simp [c__law_look, runFn, ioOk, slotOf, evSs, evS, evR, evAnd, evOr, evCs, evAs, evA, evEs, evRs, evIt, asP, fzR, readVar, movVar, R.bind, R.st, lift, frz, frzO, asBool, outsOf, resolve, binOp, cmpOp, idxOp, ixOf, slcOp, bnd, isNo, bndR, toArg, allSome, refsOf, putBack, permute, AV.isD, callIt, storeRV, storeRVs, asgT, asgTs, setOp, appOp, extOp, ownsL, p1Op, p2Op, isTys, isTy, bindT, setN, setNs, items, lcLoop, nox, hidable, slotsT, wipeS, backS, isOwn, isInS, D.ints, D.bools, D.cmpOk, D.plain, D.plainAll, D.depth, D.depthAll, D.eqv, D.eqvAll, b2i, isNon, cutL, clip, lim, parts]
  | d + 1, m, v, h => by
    rw [sg_of par (m + (d + 1) + 1) _ (fn := c__law_look) rfl]
    have hd : ¬ ((d : Int) + 1 = 0) := by omega
    have ih := e_look L d m
    have e0 : m + (d + 1) + 1 = m + d + 2 := by omega
    rw [e0]
    have en : ∀ x, noScr x = true → sig par fns (m + d + 2) 17 [.v x, .v (.int 2)] = some (.ret (.v (.bl (nOk x))) []) := fun x hx => e_is_small par (m + d + 1) x hx
    have el : (d : Int) + 1 - 1 = d := by omega
    cases v with
    | tup xs =>
      match xs, h with
      | [], h => simp [c__law_look, runFn, ioOk, slotOf, evSs, evS, evR, evAnd, evOr, evCs, evAs, evA, evEs, evRs, evIt, asP, fzR, readVar, movVar, R.bind, R.st, lift, frz, frzO, asBool, outsOf, resolve, binOp, cmpOp, idxOp, ixOf, slcOp, bnd, isNo, bndR, toArg, allSome, refsOf, putBack, permute, AV.isD, callIt, storeRV, storeRVs, asgT, asgTs, setOp, appOp, extOp, ownsL, p1Op, p2Op, isTys, isTy, bindT, setN, setNs, items, lcLoop, nox, hidable, slotsT, wipeS, backS, isOwn, isInS, D.ints, D.bools, D.cmpOk, D.plain, D.plainAll, D.depth, D.depthAll, D.eqv, D.eqvAll, b2i, isNon, cutL, clip, lim, parts, hd]
      | [k], h => simp [c__law_look, runFn, ioOk, slotOf, evSs, evS, evR, evAnd, evOr, evCs, evAs, evA, evEs, evRs, evIt, asP, fzR, readVar, movVar, R.bind, R.st, lift, frz, frzO, asBool, outsOf, resolve, binOp, cmpOp, idxOp, ixOf, slcOp, bnd, isNo, bndR, toArg, allSome, refsOf, putBack, permute, AV.isD, callIt, storeRV, storeRVs, asgT, asgTs, setOp, appOp, extOp, ownsL, p1Op, p2Op, isTys, isTy, bindT, setN, setNs, items, lcLoop, nox, hidable, slotsT, wipeS, backS, isOwn, isInS, D.ints, D.bools, D.cmpOk, D.plain, D.plainAll, D.depth, D.depthAll, D.eqv, D.eqvAll, b2i, isNon, cutL, clip, lim, parts, hd]
      | [k, x], h =>
        simp only [clean, cleanAll, Bool.and_eq_true] at h
        obtain ⟨hk, hx, _⟩ := h
        cases k with
        | str k =>
          by_cases h1 : k = sWord
          · subst h1
            cases x with
            | str s =>
              by_cases hl : s.length ≤ 60
              · have hl' : (s.length : Int) < 61 := by omega
                have ev := ev_signs par (Φ := sig par fns (m + d + 2)) L s hl (.fz (.tup [.str sWord, .str s])) (.fz (.int (d + 1))) (.fz (.str sWord)) (.fz (.tup [.str s])) .un .un (.e (.idx (.var 4) (.cst (.int 0)))) (by simp [runFn, ioOk, slotOf, evSs, evS, evR, evAnd, evOr, evCs, evAs, evA, evEs, evRs, evIt, asP, fzR, readVar, movVar, R.bind, R.st, lift, frz, frzO, asBool, outsOf, resolve, binOp, cmpOp, idxOp, ixOf, slcOp, bnd, isNo, bndR, toArg, allSome, refsOf, putBack, permute, AV.isD, callIt, storeRV, storeRVs, asgT, asgTs, setOp, appOp, extOp, ownsL, p1Op, p2Op, isTys, isTy, bindT, setN, setNs, items, lcLoop, nox, hidable, slotsT, wipeS, backS, isOwn, isInS, D.ints, D.bools, D.cmpOk, D.plain, D.plainAll, D.depth, D.depthAll, D.eqv, D.eqvAll, b2i, isNon, cutL, clip, lim]) rfl
                cases hw : sOk L s <;> simp [c__law_look, ↓ev, runFn, ioOk, slotOf, evSs, evS, evR, evAnd, evOr, evCs, evAs, evA, evEs, evRs, evIt, asP, fzR, readVar, movVar, R.bind, R.st, lift, frz, frzO, asBool, outsOf, resolve, binOp, cmpOp, idxOp, ixOf, slcOp, bnd, isNo, bndR, toArg, allSome, refsOf, putBack, permute, AV.isD, callIt, storeRV, storeRVs, asgT, asgTs, setOp, appOp, extOp, ownsL, p1Op, p2Op, isTys, isTy, bindT, setN, setNs, items, lcLoop, nox, hidable, slotsT, wipeS, backS, isOwn, isInS, D.ints, D.bools, D.cmpOk, D.plain, D.plainAll, D.depth, D.depthAll, D.eqv, D.eqvAll, b2i, isNon, cutL, clip, lim, parts, hd, wOk, hl, hl', hw, bools_in, all_in, -List.all_map]
              · have hl' : ¬ (s.length : Int) < 61 := by omega
                simp [c__law_look, runFn, ioOk, slotOf, evSs, evS, evR, evAnd, evOr, evCs, evAs, evA, evEs, evRs, evIt, asP, fzR, readVar, movVar, R.bind, R.st, lift, frz, frzO, asBool, outsOf, resolve, binOp, cmpOp, idxOp, ixOf, slcOp, bnd, isNo, bndR, toArg, allSome, refsOf, putBack, permute, AV.isD, callIt, storeRV, storeRVs, asgT, asgTs, setOp, appOp, extOp, ownsL, p1Op, p2Op, isTys, isTy, bindT, setN, setNs, items, lcLoop, nox, hidable, slotsT, wipeS, backS, isOwn, isInS, D.ints, D.bools, D.cmpOk, D.plain, D.plainAll, D.depth, D.depthAll, D.eqv, D.eqvAll, b2i, isNon, cutL, clip, lim, parts, hd, wOk, hl, hl']
            | scr => cases hx
            | obj => cases hx
            | _ => simp [c__law_look, runFn, ioOk, slotOf, evSs, evS, evR, evAnd, evOr, evCs, evAs, evA, evEs, evRs, evIt, asP, fzR, readVar, movVar, R.bind, R.st, lift, frz, frzO, asBool, outsOf, resolve, binOp, cmpOp, idxOp, ixOf, slcOp, bnd, isNo, bndR, toArg, allSome, refsOf, putBack, permute, AV.isD, callIt, storeRV, storeRVs, asgT, asgTs, setOp, appOp, extOp, ownsL, p1Op, p2Op, isTys, isTy, bindT, setN, setNs, items, lcLoop, nox, hidable, slotsT, wipeS, backS, isOwn, isInS, D.ints, D.bools, D.cmpOk, D.plain, D.plainAll, D.depth, D.depthAll, D.eqv, D.eqvAll, b2i, isNon, cutL, clip, lim, parts, hd, wOk]
          · by_cases h2 : k = sName
            · subst h2
              cases hw : nOk x <;> simp [c__law_look, runFn, ioOk, slotOf, evSs, evS, evR, evAnd, evOr, evCs, evAs, evA, evEs, evRs, evIt, asP, fzR, readVar, movVar, R.bind, R.st, lift, frz, frzO, asBool, outsOf, resolve, binOp, cmpOp, idxOp, ixOf, slcOp, bnd, isNo, bndR, toArg, allSome, refsOf, putBack, permute, AV.isD, callIt, storeRV, storeRVs, asgT, asgTs, setOp, appOp, extOp, ownsL, p1Op, p2Op, isTys, isTy, bindT, setN, setNs, items, lcLoop, nox, hidable, slotsT, wipeS, backS, isOwn, isInS, D.ints, D.bools, D.cmpOk, D.plain, D.plainAll, D.depth, D.depthAll, D.eqv, D.eqvAll, b2i, isNon, cutL, clip, lim, parts, hd, en x (clean_ns hx), hw]
            · by_cases h3 : k = sRound
              · subst h3
                simp [c__law_look, runFn, ioOk, slotOf, evSs, evS, evR, evAnd, evOr, evCs, evAs, evA, evEs, evRs, evIt, asP, fzR, readVar, movVar, R.bind, R.st, lift, frz, frzO, asBool, outsOf, resolve, binOp, cmpOp, idxOp, ixOf, slcOp, bnd, isNo, bndR, toArg, allSome, refsOf, putBack, permute, AV.isD, callIt, storeRV, storeRVs, asgT, asgTs, setOp, appOp, extOp, ownsL, p1Op, p2Op, isTys, isTy, bindT, setN, setNs, items, lcLoop, nox, hidable, slotsT, wipeS, backS, isOwn, isInS, D.ints, D.bools, D.cmpOk, D.plain, D.plainAll, D.depth, D.depthAll, D.eqv, D.eqvAll, b2i, isNon, cutL, clip, lim, parts, hd, el, ih x hx]
              · by_cases h4 : k = sBehind
                · subst h4
                  simp [c__law_look, runFn, ioOk, slotOf, evSs, evS, evR, evAnd, evOr, evCs, evAs, evA, evEs, evRs, evIt, asP, fzR, readVar, movVar, R.bind, R.st, lift, frz, frzO, asBool, outsOf, resolve, binOp, cmpOp, idxOp, ixOf, slcOp, bnd, isNo, bndR, toArg, allSome, refsOf, putBack, permute, AV.isD, callIt, storeRV, storeRVs, asgT, asgTs, setOp, appOp, extOp, ownsL, p1Op, p2Op, isTys, isTy, bindT, setN, setNs, items, lcLoop, nox, hidable, slotsT, wipeS, backS, isOwn, isInS, D.ints, D.bools, D.cmpOk, D.plain, D.plainAll, D.depth, D.depthAll, D.eqv, D.eqvAll, b2i, isNon, cutL, clip, lim, parts, hd]
                · by_cases h5 : k = sEither
                  · subst h5
                    simp [c__law_look, runFn, ioOk, slotOf, evSs, evS, evR, evAnd, evOr, evCs, evAs, evA, evEs, evRs, evIt, asP, fzR, readVar, movVar, R.bind, R.st, lift, frz, frzO, asBool, outsOf, resolve, binOp, cmpOp, idxOp, ixOf, slcOp, bnd, isNo, bndR, toArg, allSome, refsOf, putBack, permute, AV.isD, callIt, storeRV, storeRVs, asgT, asgTs, setOp, appOp, extOp, ownsL, p1Op, p2Op, isTys, isTy, bindT, setN, setNs, items, lcLoop, nox, hidable, slotsT, wipeS, backS, isOwn, isInS, D.ints, D.bools, D.cmpOk, D.plain, D.plainAll, D.depth, D.depthAll, D.eqv, D.eqvAll, b2i, isNon, cutL, clip, lim, parts, hd]
                  · have g1 : ¬ sWord = k := fun z => h1 z.symm
                    have g2 : ¬ sName = k := fun z => h2 z.symm
                    have g3 : ¬ sRound = k := fun z => h3 z.symm
                    have g4 : ¬ sBehind = k := fun z => h4 z.symm
                    have g5 : ¬ sEither = k := fun z => h5 z.symm
                    simp [c__law_look, runFn, ioOk, slotOf, evSs, evS, evR, evAnd, evOr, evCs, evAs, evA, evEs, evRs, evIt, asP, fzR, readVar, movVar, R.bind, R.st, lift, frz, frzO, asBool, outsOf, resolve, binOp, cmpOp, idxOp, ixOf, slcOp, bnd, isNo, bndR, toArg, allSome, refsOf, putBack, permute, AV.isD, callIt, storeRV, storeRVs, asgT, asgTs, setOp, appOp, extOp, ownsL, p1Op, p2Op, isTys, isTy, bindT, setN, setNs, items, lcLoop, nox, hidable, slotsT, wipeS, backS, isOwn, isInS, D.ints, D.bools, D.cmpOk, D.plain, D.plainAll, D.depth, D.depthAll, D.eqv, D.eqvAll, b2i, isNon, cutL, clip, lim, parts, hd, h1, h2, h3, h4, h5, g1, g2, g3, g4, g5]
        | scr => cases hk
        | obj => cases hk
        | _ => simp [c__law_look, runFn, ioOk, slotOf, evSs, evS, evR, evAnd, evOr, evCs, evAs, evA, evEs, evRs, evIt, asP, fzR, readVar, movVar, R.bind, R.st, lift, frz, frzO, asBool, outsOf, resolve, binOp, cmpOp, idxOp, ixOf, slcOp, bnd, isNo, bndR, toArg, allSome, refsOf, putBack, permute, AV.isD, callIt, storeRV, storeRVs, asgT, asgTs, setOp, appOp, extOp, ownsL, p1Op, p2Op, isTys, isTy, bindT, setN, setNs, items, lcLoop, nox, hidable, slotsT, wipeS, backS, isOwn, isInS, D.ints, D.bools, D.cmpOk, D.plain, D.plainAll, D.depth, D.depthAll, D.eqv, D.eqvAll, b2i, isNon, cutL, clip, lim, parts, hd]
      | [k, x, y], h =>
        simp only [clean, cleanAll, Bool.and_eq_true] at h
        obtain ⟨hk, hx, hy, _⟩ := h
        cases k with
        | str k =>
          by_cases h1 : k = sWord
          · subst h1
            simp [c__law_look, runFn, ioOk, slotOf, evSs, evS, evR, evAnd, evOr, evCs, evAs, evA, evEs, evRs, evIt, asP, fzR, readVar, movVar, R.bind, R.st, lift, frz, frzO, asBool, outsOf, resolve, binOp, cmpOp, idxOp, ixOf, slcOp, bnd, isNo, bndR, toArg, allSome, refsOf, putBack, permute, AV.isD, callIt, storeRV, storeRVs, asgT, asgTs, setOp, appOp, extOp, ownsL, p1Op, p2Op, isTys, isTy, bindT, setN, setNs, items, lcLoop, nox, hidable, slotsT, wipeS, backS, isOwn, isInS, D.ints, D.bools, D.cmpOk, D.plain, D.plainAll, D.depth, D.depthAll, D.eqv, D.eqvAll, b2i, isNon, cutL, clip, lim, parts, hd]
          · by_cases h2 : k = sName
            · subst h2
              simp [c__law_look, runFn, ioOk, slotOf, evSs, evS, evR, evAnd, evOr, evCs, evAs, evA, evEs, evRs, evIt, asP, fzR, readVar, movVar, R.bind, R.st, lift, frz, frzO, asBool, outsOf, resolve, binOp, cmpOp, idxOp, ixOf, slcOp, bnd, isNo, bndR, toArg, allSome, refsOf, putBack, permute, AV.isD, callIt, storeRV, storeRVs, asgT, asgTs, setOp, appOp, extOp, ownsL, p1Op, p2Op, isTys, isTy, bindT, setN, setNs, items, lcLoop, nox, hidable, slotsT, wipeS, backS, isOwn, isInS, D.ints, D.bools, D.cmpOk, D.plain, D.plainAll, D.depth, D.depthAll, D.eqv, D.eqvAll, b2i, isNon, cutL, clip, lim, parts, hd]
            · by_cases h3 : k = sRound
              · subst h3
                simp [c__law_look, runFn, ioOk, slotOf, evSs, evS, evR, evAnd, evOr, evCs, evAs, evA, evEs, evRs, evIt, asP, fzR, readVar, movVar, R.bind, R.st, lift, frz, frzO, asBool, outsOf, resolve, binOp, cmpOp, idxOp, ixOf, slcOp, bnd, isNo, bndR, toArg, allSome, refsOf, putBack, permute, AV.isD, callIt, storeRV, storeRVs, asgT, asgTs, setOp, appOp, extOp, ownsL, p1Op, p2Op, isTys, isTy, bindT, setN, setNs, items, lcLoop, nox, hidable, slotsT, wipeS, backS, isOwn, isInS, D.ints, D.bools, D.cmpOk, D.plain, D.plainAll, D.depth, D.depthAll, D.eqv, D.eqvAll, b2i, isNon, cutL, clip, lim, parts, hd]
              · by_cases h4 : k = sBehind
                · subst h4
                  simp [c__law_look, runFn, ioOk, slotOf, evSs, evS, evR, evAnd, evOr, evCs, evAs, evA, evEs, evRs, evIt, asP, fzR, readVar, movVar, R.bind, R.st, lift, frz, frzO, asBool, outsOf, resolve, binOp, cmpOp, idxOp, ixOf, slcOp, bnd, isNo, bndR, toArg, allSome, refsOf, putBack, permute, AV.isD, callIt, storeRV, storeRVs, asgT, asgTs, setOp, appOp, extOp, ownsL, p1Op, p2Op, isTys, isTy, bindT, setN, setNs, items, lcLoop, nox, hidable, slotsT, wipeS, backS, isOwn, isInS, D.ints, D.bools, D.cmpOk, D.plain, D.plainAll, D.depth, D.depthAll, D.eqv, D.eqvAll, b2i, isNon, cutL, clip, lim, parts, hd, el, ih x hx, ih y hy]
                · by_cases h5 : k = sEither
                  · subst h5
                    simp [c__law_look, runFn, ioOk, slotOf, evSs, evS, evR, evAnd, evOr, evCs, evAs, evA, evEs, evRs, evIt, asP, fzR, readVar, movVar, R.bind, R.st, lift, frz, frzO, asBool, outsOf, resolve, binOp, cmpOp, idxOp, ixOf, slcOp, bnd, isNo, bndR, toArg, allSome, refsOf, putBack, permute, AV.isD, callIt, storeRV, storeRVs, asgT, asgTs, setOp, appOp, extOp, ownsL, p1Op, p2Op, isTys, isTy, bindT, setN, setNs, items, lcLoop, nox, hidable, slotsT, wipeS, backS, isOwn, isInS, D.ints, D.bools, D.cmpOk, D.plain, D.plainAll, D.depth, D.depthAll, D.eqv, D.eqvAll, b2i, isNon, cutL, clip, lim, parts, hd, el, ih x hx, ih y hy]
                  · have g1 : ¬ sWord = k := fun z => h1 z.symm
                    have g2 : ¬ sName = k := fun z => h2 z.symm
                    have g3 : ¬ sRound = k := fun z => h3 z.symm
                    have g4 : ¬ sBehind = k := fun z => h4 z.symm
                    have g5 : ¬ sEither = k := fun z => h5 z.symm
                    simp [c__law_look, runFn, ioOk, slotOf, evSs, evS, evR, evAnd, evOr, evCs, evAs, evA, evEs, evRs, evIt, asP, fzR, readVar, movVar, R.bind, R.st, lift, frz, frzO, asBool, outsOf, resolve, binOp, cmpOp, idxOp, ixOf, slcOp, bnd, isNo, bndR, toArg, allSome, refsOf, putBack, permute, AV.isD, callIt, storeRV, storeRVs, asgT, asgTs, setOp, appOp, extOp, ownsL, p1Op, p2Op, isTys, isTy, bindT, setN, setNs, items, lcLoop, nox, hidable, slotsT, wipeS, backS, isOwn, isInS, D.ints, D.bools, D.cmpOk, D.plain, D.plainAll, D.depth, D.depthAll, D.eqv, D.eqvAll, b2i, isNon, cutL, clip, lim, parts, hd, h1, h2, h3, h4, h5, g1, g2, g3, g4, g5]
        | scr => cases hk
        | obj => cases hk
        | _ => simp [c__law_look, runFn, ioOk, slotOf, evSs, evS, evR, evAnd, evOr, evCs, evAs, evA, evEs, evRs, evIt, asP, fzR, readVar, movVar, R.bind, R.st, lift, frz, frzO, asBool, outsOf, resolve, binOp, cmpOp, idxOp, ixOf, slcOp, bnd, isNo, bndR, toArg, allSome, refsOf, putBack, permute, AV.isD, callIt, storeRV, storeRVs, asgT, asgTs, setOp, appOp, extOp, ownsL, p1Op, p2Op, isTys, isTy, bindT, setN, setNs, items, lcLoop, nox, hidable, slotsT, wipeS, backS, isOwn, isInS, D.ints, D.bools, D.cmpOk, D.plain, D.plainAll, D.depth, D.depthAll, D.eqv, D.eqvAll, b2i, isNon, cutL, clip, lim, parts, hd]
      | k :: x :: y :: z :: r, h =>
        simp only [clean, cleanAll, Bool.and_eq_true] at h
        obtain ⟨hk, _⟩ := h
        have l0 : (0 : Int) < (r.length : Int) + 1 + 1 + 1 + 1 := by omega
        have l2 : ¬ ((r.length : Int) + 1 + 1 + 1 + 1 < 2) := by omega
        have l3 : ¬ ((r.length : Int) + 1 + 1 + 1 = 1) := by omega
        have l3' : ¬ (1 = (r.length : Int) + 1 + 1 + 1) := by omega
        have l4' : ¬ (2 = (r.length : Int) + 1 + 1 + 1) := by omega
        have l5 : min 1 (r.length + 1 + 1 + 1 + 1) = 1 := by omega
        have l6 : List.take (r.length + 1 + 1 + 1 + 1 - 1) (x :: y :: z :: r) = x :: y :: z :: r := List.take_of_length_le (by simp)
        cases k with
        | str k => simp [c__law_look, runFn, ioOk, slotOf, evSs, evS, evR, evAnd, evOr, evCs, evAs, evA, evEs, evRs, evIt, asP, fzR, readVar, movVar, R.bind, R.st, lift, frz, frzO, asBool, outsOf, resolve, binOp, cmpOp, idxOp, ixOf, slcOp, bnd, isNo, bndR, toArg, allSome, refsOf, putBack, permute, AV.isD, callIt, storeRV, storeRVs, asgT, asgTs, setOp, appOp, extOp, ownsL, p1Op, p2Op, isTys, isTy, bindT, setN, setNs, items, lcLoop, nox, hidable, slotsT, wipeS, backS, isOwn, isInS, D.ints, D.bools, D.cmpOk, D.plain, D.plainAll, D.depth, D.depthAll, D.eqv, D.eqvAll, b2i, isNon, cutL, clip, lim, parts, hd, l0, l2, l3, l3', l4', l5, l6]
        | scr => cases hk
        | obj => cases hk
        | _ => simp [c__law_look, runFn, ioOk, slotOf, evSs, evS, evR, evAnd, evOr, evCs, evAs, evA, evEs, evRs, evIt, asP, fzR, readVar, movVar, R.bind, R.st, lift, frz, frzO, asBool, outsOf, resolve, binOp, cmpOp, idxOp, ixOf, slcOp, bnd, isNo, bndR, toArg, allSome, refsOf, putBack, permute, AV.isD, callIt, storeRV, storeRVs, asgT, asgTs, setOp, appOp, extOp, ownsL, p1Op, p2Op, isTys, isTy, bindT, setN, setNs, items, lcLoop, nox, hidable, slotsT, wipeS, backS, isOwn, isInS, D.ints, D.bools, D.cmpOk, D.plain, D.plainAll, D.depth, D.depthAll, D.eqv, D.eqvAll, b2i, isNon, cutL, clip, lim, parts, hd, l0, l2, l3, l3', l4']
    | scr => cases h
    | obj => cases h
    | _ => simp [c__law_look, runFn, ioOk, slotOf, evSs, evS, evR, evAnd, evOr, evCs, evAs, evA, evEs, evRs, evIt, asP, fzR, readVar, movVar, R.bind, R.st, lift, frz, frzO, asBool, outsOf, resolve, binOp, cmpOp, idxOp, ixOf, slcOp, bnd, isNo, bndR, toArg, allSome, refsOf, putBack, permute, AV.isD, callIt, storeRV, storeRVs, asgT, asgTs, setOp, appOp, extOp, ownsL, p1Op, p2Op, isTys, isTy, bindT, setN, setNs, items, lcLoop, nox, hidable, slotsT, wipeS, backS, isOwn, isInS, D.ints, D.bools, D.cmpOk, D.plain, D.plainAll, D.depth, D.depthAll, D.eqv, D.eqvAll, b2i, isNon, cutL, clip, lim, parts, hd]
theorem e_is_pattern_of (L : Int) (m : Nat) (v : D) (h : clean v = true) : sig par fns (m + 14) 6 [.v (.int L), .v v] = some (.ret (.v (.bl (decide (parts 31 L 9 v ≤ 30)))) []) := by
  rw [sg_of par (m + 13) _ (fn := c_is_pattern_of) rfl]
  have e := e_many par L 9 m v h
  have e0 : m + 9 + 4 = m + 13 := by omega
  rw [e0] at e
  have e1 : sig par fns (m + 13) 5 [.v (.int L), .v v, .v (.int 9)] = some (.ret (.v (.int (parts 31 L 9 v))) []) := e
  simp [c_is_pattern_of, runFn, ioOk, slotOf, evSs, evS, evR, evAnd, evOr, evCs, evAs, evA, evEs, evRs, evIt, asP, fzR, readVar, movVar, R.bind, R.st, lift, frz, frzO, asBool, outsOf, resolve, binOp, cmpOp, idxOp, ixOf, slcOp, bnd, isNo, bndR, toArg, allSome, refsOf, putBack, permute, AV.isD, callIt, storeRV, storeRVs, asgT, asgTs, setOp, appOp, extOp, ownsL, p1Op, p2Op, isTys, isTy, bindT, setN, setNs, items, lcLoop, nox, hidable, slotsT, wipeS, backS, isOwn, isInS, D.ints, D.bools, D.cmpOk, D.plain, D.plainAll, D.depth, D.depthAll, D.eqv, D.eqvAll, b2i, isNon, cutL, clip, lim, e1]
theorem e_law_is_pattern (L : Int) (m : Nat) (v : D) (h : clean v = true) : sig par fns (m + 12) 19 [.v (.int L), .v v] = some (.ret (.v (.bl (decide (parts 99 L 9 v ≤ 30)))) []) := by
  rw [sg_of par (m + 11) _ (fn := c__law_is_pattern) rfl]
  have e := e_look par L 9 m v h
  have e0 : m + 9 + 2 = m + 11 := by omega
  rw [e0] at e
  have e1 : sig par fns (m + 11) 18 [.v (.int L), .v v, .v (.int 9)] = some (.ret (.v (.int (parts 99 L 9 v))) []) := e
  simp [c__law_is_pattern, runFn, ioOk, slotOf, evSs, evS, evR, evAnd, evOr, evCs, evAs, evA, evEs, evRs, evIt, asP, fzR, readVar, movVar, R.bind, R.st, lift, frz, frzO, asBool, outsOf, resolve, binOp, cmpOp, idxOp, ixOf, slcOp, bnd, isNo, bndR, toArg, allSome, refsOf, putBack, permute, AV.isD, callIt, storeRV, storeRVs, asgT, asgTs, setOp, appOp, extOp, ownsL, p1Op, p2Op, isTys, isTy, bindT, setN, setNs, items, lcLoop, nox, hidable, slotsT, wipeS, backS, isOwn, isInS, D.ints, D.bools, D.cmpOk, D.plain, D.plainAll, D.depth, D.depthAll, D.eqv, D.eqvAll, b2i, isNon, cutL, clip, lim, e1]
end
/-- the two counts agree, or both are too many -/
theorem parts_two (L : Int) : ∀ (d : Nat) (v : D), 1 ≤ parts 31 L d v ∧ 1 ≤ parts 99 L d v ∧ (parts 31 L d v = parts 99 L d v ∨ (30 < parts 31 L d v ∧ 30 < parts 99 L d v))
  | 0, v => by simp [parts]
  | d + 1, v => by
    unfold parts
    split
    · rename_i h; cases h
    · rename_i d' k x e
      cases e
      have ih := parts_two L d x
      split
      · split <;> simp
      · split
        · split <;> simp
        · split
          · omega
          · simp
    · rename_i d' k x y e
      cases e
      have ih := parts_two L d x
      have ih2 := parts_two L d y
      split
      · omega
      · simp
    · simp
theorem due_same (L : Int) (v : D) : decide (parts 31 L 9 v ≤ 30) = decide (parts 99 L 9 v ≤ 30) := by
  have := parts_two L 9 v
  rw [decide_eq_decide]
  omega
end La

namespace La
open Py
/-- the pot: what is left of a cell, the sown number -/
def PotOk (o : OD) : Prop := ∃ a b : Int, o = .lst [.int a, .int b] ∧ 0 ≤ a ∧ 0 ≤ b ∧ b < 4294967296
section
variable (par : Par)
theorem e_draw (n : Nat) (o : OD) (h : PotOk o) (s : Int) (h1 : 0 < s) (h2 : s < 1073741824) : ∃ r o', sig par fns (n + 1) 12 [.r o, .v (.int s)] = some (.ret (.v (.int r)) [o']) ∧ PotOk o' ∧ 0 ≤ r ∧ r < s := by
  obtain ⟨a, b, rfl, ha, hb, hb2⟩ := h
  rw [sg_of par n _ (fn := c__law_draw) rfl]
  by_cases h0 : 0 < a
  · refine ⟨a % s, .lst [.int (a / s), .int b], ?_, ⟨_, _, rfl, Int.ediv_nonneg ha (by omega), hb, hb2⟩, Int.emod_nonneg _ (by omega), Int.emod_lt_of_pos _ h1⟩
    simp [c__law_draw, runFn, ioOk, slotOf, evSs, evS, evR, evAnd, evOr, evCs, evAs, evA, evEs, evRs, evIt, asP, fzR, readVar, movVar, R.bind, R.st, lift, frz, frzO, asBool, outsOf, resolve, binOp, cmpOp, idxOp, ixOf, slcOp, bnd, isNo, bndR, toArg, allSome, refsOf, putBack, permute, AV.isD, callIt, storeRV, storeRVs, asgT, asgTs, setOp, appOp, extOp, ownsL, p1Op, p2Op, isTys, isTy, bindT, setN, setNs, items, lcLoop, nox, hidable, slotsT, wipeS, backS, isOwn, isInS, D.ints, D.bools, D.cmpOk, D.plain, D.plainAll, D.depth, D.depthAll, D.eqv, D.eqvAll, b2i, isNon, cutL, clip, lim, h0, h1, h2]
  · have x1 : ∀ (x m : Int), 0 < m → 0 ≤ x.fmod m ∧ x.fmod m < m := fun x m hm => ⟨Int.fmod_nonneg_of_pos x hm, Int.fmod_lt_of_pos x hm⟩
    have m1 := x1 (b * 39373 + 3851) 2147483587 (by omega)
    generalize hb' : (b * 39373 + 3851).fmod 2147483587 = b' at m1
    have l1 : -18446744073709551616 < b := by omega
    have l2 : b < 18446744073709551616 := by omega
    have l3 : -18446744073709551616 < b' := by omega
    have l4 : b' < 18446744073709551616 := by omega
    have s0 : ¬ s = 0 := by omega
    refine ⟨(((b' * b').fmod 2147483563).fdiv 17).fmod s, .lst [.int a, .int b'], ?_, ⟨_, _, rfl, ha, by omega, by omega⟩, (x1 _ s h1).1, (x1 _ s h1).2⟩
    simp [c__law_draw, runFn, ioOk, slotOf, evSs, evS, evR, evAnd, evOr, evCs, evAs, evA, evEs, evRs, evIt, asP, fzR, readVar, movVar, R.bind, R.st, lift, frz, frzO, asBool, outsOf, resolve, binOp, cmpOp, idxOp, ixOf, slcOp, bnd, isNo, bndR, toArg, allSome, refsOf, putBack, permute, AV.isD, callIt, storeRV, storeRVs, asgT, asgTs, setOp, appOp, extOp, ownsL, p1Op, p2Op, isTys, isTy, bindT, setN, setNs, items, lcLoop, nox, hidable, slotsT, wipeS, backS, isOwn, isInS, D.ints, D.bools, D.cmpOk, D.plain, D.plainAll, D.depth, D.depthAll, D.eqv, D.eqvAll, b2i, isNon, cutL, clip, lim, h0, hb', l1, l2, l3, l4, s0]
theorem e_pot (n : Nat) (ns : List Int) (hl : ns.length ≤ 63) : ∃ o, sig par fns (n + 1) 11 [.v (.scr ns), .v (.int 0)] = some (.ret (.o o) []) ∧ PotOk o := by
  rw [sg_of par n _ (fn := c__law_pot) rfl]
  have x1 : ∀ (x m : Int), 0 < m → 0 ≤ x.fmod m ∧ x.fmod m < m := fun x m hm => ⟨Int.fmod_nonneg_of_pos x hm, Int.fmod_lt_of_pos x hm⟩
  cases ns with
  | nil => exact ⟨.lst [.int 0, .int 27562759], by simp [c__law_pot, runFn, ioOk, slotOf, evSs, evS, evR, evAnd, evOr, evCs, evAs, evA, evEs, evRs, evIt, asP, fzR, readVar, movVar, R.bind, R.st, lift, frz, frzO, asBool, outsOf, resolve, binOp, cmpOp, idxOp, ixOf, slcOp, bnd, isNo, bndR, toArg, allSome, refsOf, putBack, permute, AV.isD, callIt, storeRV, storeRVs, asgT, asgTs, setOp, appOp, extOp, ownsL, p1Op, p2Op, isTys, isTy, bindT, setN, setNs, items, lcLoop, nox, hidable, slotsT, wipeS, backS, isOwn, isInS, D.ints, D.bools, D.cmpOk, D.plain, D.plainAll, D.depth, D.depthAll, D.eqv, D.eqvAll, b2i, isNon, cutL, clip, lim], 0, 27562759, rfl, by decide, by decide, by decide⟩
  | cons x r =>
    have hz : (0 : Int) < r.length + 1 := by omega
    have m1 := x1 (x.natAbs : Int) 2147483549 (by omega)
    generalize hm : ((x.natAbs : Int)).fmod 2147483549 = y at m1
    have l3 : -18446744073709551616 < y := by omega
    have l4 : y < 18446744073709551616 := by omega
    have m2 := x1 (y * 48271 + 17) 2147483563 (by omega)
    refine ⟨.lst [.int (if (x.natAbs : Int) - 1000000000000000000 > 0 then (x.natAbs : Int) - 1000000000000000000 else 0), .int ((y * 48271 + 17).fmod 2147483563 + 1)], ?_, _, _, rfl, ?_, by omega, by omega⟩
    · simp [c__law_pot, runFn, ioOk, slotOf, evSs, evS, evR, evAnd, evOr, evCs, evAs, evA, evEs, evRs, evIt, asP, fzR, readVar, movVar, R.bind, R.st, lift, frz, frzO, asBool, outsOf, resolve, binOp, cmpOp, idxOp, ixOf, slcOp, bnd, isNo, bndR, toArg, allSome, refsOf, putBack, permute, AV.isD, callIt, storeRV, storeRVs, asgT, asgTs, setOp, appOp, extOp, ownsL, p1Op, p2Op, isTys, isTy, bindT, setN, setNs, items, lcLoop, nox, hidable, slotsT, wipeS, backS, isOwn, isInS, D.ints, D.bools, D.cmpOk, D.plain, D.plainAll, D.depth, D.depthAll, D.eqv, D.eqvAll, b2i, isNon, cutL, clip, lim, hz, hm, l3, l4]
    · split <;> omega
/-- a drawn word -/
theorem idx_abc {r L : Int} (h0 : 0 ≤ r) (h1 : r < L) (h2 : L ≤ 3) : ∃ c, idxOp (.str [97, 98, 99]) (.int r) = some (.str [c]) ∧ c ∈ cutL abc none (some L) := by
  have hr : r = 0 ∨ r = 1 ∨ r = 2 := by omega
  have hL : L = 1 ∨ L = 2 ∨ L = 3 := by omega
  rcases hr with rfl | rfl | rfl <;> rcases hL with rfl | rfl | rfl <;> first | (exact ⟨97, rfl, by decide⟩) | (exact ⟨98, rfl, by decide⟩) | (exact ⟨99, rfl, by decide⟩) | omega
theorem e_word (n : Nat) (o : OD) (h : PotOk o) (L : Int) (h1 : 1 ≤ L) (h2 : L ≤ 3) : ∃ w o', sig par fns (n + 2) 13 [.r o, .v (.int L), .v (.int 2)] = some (.ret (.v (.str w)) [o']) ∧ PotOk o' ∧ w.length ≤ 2 ∧ sOk L w = true := by
  rw [sg_of par (n + 1) _ (fn := c__law_word) rfl]
  obtain ⟨r, o1, e1, p1, r0, r1⟩ := e_draw par n o h 3 (by omega) (by omega)
  obtain ⟨a, o2, e2, p2, a0, a1⟩ := e_draw par n o1 p1 L (by omega) (by omega)
  obtain ⟨b, o3, e3, p3, b0, b1⟩ := e_draw par n o2 p2 L (by omega) (by omega)
  obtain ⟨c, ec, hc⟩ := idx_abc a0 a1 h2
  obtain ⟨d, ed, hd⟩ := idx_abc b0 b1 h2
  have hr : r = 0 ∨ r = 1 ∨ r = 2 := by omega
  rcases hr with rfl | rfl | rfl
  · exact ⟨[], o1, by simp [c__law_word, runFn, ioOk, slotOf, evSs, evS, evR, evAnd, evOr, evCs, evAs, evA, evEs, evRs, evIt, asP, fzR, readVar, movVar, R.bind, R.st, lift, frz, frzO, asBool, outsOf, resolve, binOp, cmpOp, idxOp, ixOf, slcOp, bnd, isNo, bndR, toArg, allSome, refsOf, putBack, permute, AV.isD, callIt, storeRV, storeRVs, asgT, asgTs, setOp, appOp, extOp, ownsL, p1Op, p2Op, isTys, isTy, bindT, setN, setNs, items, lcLoop, nox, hidable, slotsT, wipeS, backS, isOwn, isInS, D.ints, D.bools, D.cmpOk, D.plain, D.plainAll, D.depth, D.depthAll, D.eqv, D.eqvAll, b2i, isNon, cutL, clip, lim, e1, inI, rng, loopF], p1, by decide, rfl⟩
  · refine ⟨[c], o2, ?_, p2, by simp, by simp [sOk, hc]⟩
    simp [c__law_word, runFn, ioOk, slotOf, evSs, evS, evR, evAnd, evOr, evCs, evAs, evA, evEs, evRs, evIt, asP, fzR, readVar, movVar, R.bind, R.st, lift, frz, frzO, asBool, outsOf, resolve, binOp, cmpOp, idxOp, ixOf, slcOp, bnd, isNo, bndR, toArg, allSome, refsOf, putBack, permute, AV.isD, callIt, storeRV, storeRVs, asgT, asgTs, setOp, appOp, extOp, ownsL, p1Op, p2Op, isTys, isTy, bindT, setN, setNs, items, lcLoop, nox, hidable, slotsT, wipeS, backS, isOwn, isInS, D.ints, D.bools, D.cmpOk, D.plain, D.plainAll, D.depth, D.depthAll, D.eqv, D.eqvAll, b2i, isNon, cutL, clip, lim, e1, e2, inI, rng, loopF, List.range, List.range.loop, ↓ec, -idxOp]
  · refine ⟨[c, d], o3, ?_, p3, by simp, by simp [sOk, hc, hd]⟩
    simp [c__law_word, runFn, ioOk, slotOf, evSs, evS, evR, evAnd, evOr, evCs, evAs, evA, evEs, evRs, evIt, asP, fzR, readVar, movVar, R.bind, R.st, lift, frz, frzO, asBool, outsOf, resolve, binOp, cmpOp, idxOp, ixOf, slcOp, bnd, isNo, bndR, toArg, allSome, refsOf, putBack, permute, AV.isD, callIt, storeRV, storeRVs, asgT, asgTs, setOp, appOp, extOp, ownsL, p1Op, p2Op, isTys, isTy, bindT, setN, setNs, items, lcLoop, nox, hidable, slotsT, wipeS, backS, isOwn, isInS, D.ints, D.bools, D.cmpOk, D.plain, D.plainAll, D.depth, D.depthAll, D.eqv, D.eqvAll, b2i, isNon, cutL, clip, lim, e1, e2, e3, inI, rng, loopF, List.range, List.range.loop, ↓ec, ↓ed, -idxOp]
/-- a drawn pattern -/
inductive GP (L : Int) : Nat → D → Prop where
  | word {d : Nat} {w : List Nat} (h : w.length ≤ 2) (h2 : sOk L w = true) : GP L d (.tup [.str sWord, .str w])
  | name {d : Nat} {i : Int} (h : 0 ≤ i) (h2 : i ≤ 2) : GP L d (.tup [.str sName, .int i])
  | round {d : Nat} {p : D} (h : GP L d p) : GP L (d + 1) (.tup [.str sRound, p])
  | two {d : Nat} {k : List Nat} {p q : D} (hk : k = sBehind ∨ k = sEither) (h : GP L d p) (h2 : GP L d q) : GP L (d + 1) (.tup [.str k, p, q])
theorem e_leaf (n d : Nat) (o : OD) (h : PotOk o) (L : Int) (h1 : 1 ≤ L) (h2 : L ≤ 3) : ∃ v o', sig par fns (n + 3) 14 [.r o, .v (.int L), .v (.int 3)] = some (.ret (.v v) [o']) ∧ PotOk o' ∧ GP L d v := by
  rw [sg_of par (n + 2) _ (fn := c__law_leaf) rfl]
  obtain ⟨r, o1, e1, p1, r0, r1⟩ := e_draw par (n + 1) o h 5 (by omega) (by omega)
  by_cases hr : r < 2
  · obtain ⟨w, o2, e2, p2, w1, w2⟩ := e_word par n o1 p1 L h1 h2
    exact ⟨.tup [.str sWord, .str w], o2, by simp [c__law_leaf, runFn, ioOk, slotOf, evSs, evS, evR, evAnd, evOr, evCs, evAs, evA, evEs, evRs, evIt, asP, fzR, readVar, movVar, R.bind, R.st, lift, frz, frzO, asBool, outsOf, resolve, binOp, cmpOp, idxOp, ixOf, slcOp, bnd, isNo, bndR, toArg, allSome, refsOf, putBack, permute, AV.isD, callIt, storeRV, storeRVs, asgT, asgTs, setOp, appOp, extOp, ownsL, p1Op, p2Op, isTys, isTy, bindT, setN, setNs, items, lcLoop, nox, hidable, slotsT, wipeS, backS, isOwn, isInS, D.ints, D.bools, D.cmpOk, D.plain, D.plainAll, D.depth, D.depthAll, D.eqv, D.eqvAll, b2i, isNon, cutL, clip, lim, e1, e2, hr], p2, .word w1 w2⟩
  · obtain ⟨i, o2, e2, p2, i0, i1⟩ := e_draw par (n + 1) o1 p1 3 (by omega) (by omega)
    exact ⟨.tup [.str sName, .int i], o2, by simp [c__law_leaf, runFn, ioOk, slotOf, evSs, evS, evR, evAnd, evOr, evCs, evAs, evA, evEs, evRs, evIt, asP, fzR, readVar, movVar, R.bind, R.st, lift, frz, frzO, asBool, outsOf, resolve, binOp, cmpOp, idxOp, ixOf, slcOp, bnd, isNo, bndR, toArg, allSome, refsOf, putBack, permute, AV.isD, callIt, storeRV, storeRVs, asgT, asgTs, setOp, appOp, extOp, ownsL, p1Op, p2Op, isTys, isTy, bindT, setN, setNs, items, lcLoop, nox, hidable, slotsT, wipeS, backS, isOwn, isInS, D.ints, D.bools, D.cmpOk, D.plain, D.plainAll, D.depth, D.depthAll, D.eqv, D.eqvAll, b2i, isNon, cutL, clip, lim, e1, e2, hr], p2, .name i0 (by omega)⟩
theorem e_pattern (L : Int) (h1 : 1 ≤ L) (h2 : L ≤ 3) : ∀ (d n : Nat) (o : OD), PotOk o → ∃ v o', sig par fns (n + d + 4) 15 [.r o, .v (.int L), .v (.int 3), .v (.int d)] = some (.ret (.v v) [o']) ∧ PotOk o' ∧ GP L d v
  | 0, n, o, h => by
    rw [sg_of par (n + 0 + 3) _ (fn := c__law_pattern) rfl]
    obtain ⟨r, o1, e1, p1, r0, r1⟩ := e_draw par (n + 2) o h 5 (by omega) (by omega)
    obtain ⟨v, o2, e2, p2, g⟩ := e_leaf par n 0 o1 p1 L h1 h2
    exact ⟨v, o2, by simp [c__law_pattern, runFn, ioOk, slotOf, evSs, evS, evR, evAnd, evOr, evCs, evAs, evA, evEs, evRs, evIt, asP, fzR, readVar, movVar, R.bind, R.st, lift, frz, frzO, asBool, outsOf, resolve, binOp, cmpOp, idxOp, ixOf, slcOp, bnd, isNo, bndR, toArg, allSome, refsOf, putBack, permute, AV.isD, callIt, storeRV, storeRVs, asgT, asgTs, setOp, appOp, extOp, ownsL, p1Op, p2Op, isTys, isTy, bindT, setN, setNs, items, lcLoop, nox, hidable, slotsT, wipeS, backS, isOwn, isInS, D.ints, D.bools, D.cmpOk, D.plain, D.plainAll, D.depth, D.depthAll, D.eqv, D.eqvAll, b2i, isNon, cutL, clip, lim, e1, e2], p2, g⟩
  | d + 1, n, o, h => by
    rw [sg_of par (n + (d + 1) + 3) _ (fn := c__law_pattern) rfl]
    have e0 : n + (d + 1) + 3 = n + d + 4 := by omega
    rw [e0]
    obtain ⟨r, o1, e1, p1, r0, r1⟩ := e_draw par (n + d + 3) o h 5 (by omega) (by omega)
    have hd : ¬ ((d : Int) + 1 = 0) := by omega
    have el : (d : Int) + 1 - 1 = d := by omega
    by_cases r2 : r = 0
    · subst r2
      obtain ⟨v, o2, e2, p2, g⟩ := e_leaf par (n + d + 1) (d + 1) o1 p1 L h1 h2
      exact ⟨v, o2, by simp [c__law_pattern, runFn, ioOk, slotOf, evSs, evS, evR, evAnd, evOr, evCs, evAs, evA, evEs, evRs, evIt, asP, fzR, readVar, movVar, R.bind, R.st, lift, frz, frzO, asBool, outsOf, resolve, binOp, cmpOp, idxOp, ixOf, slcOp, bnd, isNo, bndR, toArg, allSome, refsOf, putBack, permute, AV.isD, callIt, storeRV, storeRVs, asgT, asgTs, setOp, appOp, extOp, ownsL, p1Op, p2Op, isTys, isTy, bindT, setN, setNs, items, lcLoop, nox, hidable, slotsT, wipeS, backS, isOwn, isInS, D.ints, D.bools, D.cmpOk, D.plain, D.plainAll, D.depth, D.depthAll, D.eqv, D.eqvAll, b2i, isNon, cutL, clip, lim, e1, e2, hd], p2, g⟩
    · obtain ⟨p, o2, e2, p2, g⟩ := e_pattern L h1 h2 d n o1 p1
      by_cases r3 : r = 1
      · subst r3
        exact ⟨.tup [.str sRound, p], o2, by simp [c__law_pattern, runFn, ioOk, slotOf, evSs, evS, evR, evAnd, evOr, evCs, evAs, evA, evEs, evRs, evIt, asP, fzR, readVar, movVar, R.bind, R.st, lift, frz, frzO, asBool, outsOf, resolve, binOp, cmpOp, idxOp, ixOf, slcOp, bnd, isNo, bndR, toArg, allSome, refsOf, putBack, permute, AV.isD, callIt, storeRV, storeRVs, asgT, asgTs, setOp, appOp, extOp, ownsL, p1Op, p2Op, isTys, isTy, bindT, setN, setNs, items, lcLoop, nox, hidable, slotsT, wipeS, backS, isOwn, isInS, D.ints, D.bools, D.cmpOk, D.plain, D.plainAll, D.depth, D.depthAll, D.eqv, D.eqvAll, b2i, isNon, cutL, clip, lim, e1, e2, hd, el], p2, .round g⟩
      · obtain ⟨q, o3, e3, p3, g3⟩ := e_pattern L h1 h2 d n o2 p2
        by_cases r4 : r = 2
        · subst r4
          exact ⟨.tup [.str sEither, p, q], o3, by simp [c__law_pattern, runFn, ioOk, slotOf, evSs, evS, evR, evAnd, evOr, evCs, evAs, evA, evEs, evRs, evIt, asP, fzR, readVar, movVar, R.bind, R.st, lift, frz, frzO, asBool, outsOf, resolve, binOp, cmpOp, idxOp, ixOf, slcOp, bnd, isNo, bndR, toArg, allSome, refsOf, putBack, permute, AV.isD, callIt, storeRV, storeRVs, asgT, asgTs, setOp, appOp, extOp, ownsL, p1Op, p2Op, isTys, isTy, bindT, setN, setNs, items, lcLoop, nox, hidable, slotsT, wipeS, backS, isOwn, isInS, D.ints, D.bools, D.cmpOk, D.plain, D.plainAll, D.depth, D.depthAll, D.eqv, D.eqvAll, b2i, isNon, cutL, clip, lim, e1, e2, e3, hd, el], p3, .two (.inr rfl) g g3⟩
        · exact ⟨.tup [.str sBehind, p, q], o3, by simp [c__law_pattern, runFn, ioOk, slotOf, evSs, evS, evR, evAnd, evOr, evCs, evAs, evA, evEs, evRs, evIt, asP, fzR, readVar, movVar, R.bind, R.st, lift, frz, frzO, asBool, outsOf, resolve, binOp, cmpOp, idxOp, ixOf, slcOp, bnd, isNo, bndR, toArg, allSome, refsOf, putBack, permute, AV.isD, callIt, storeRV, storeRVs, asgT, asgTs, setOp, appOp, extOp, ownsL, p1Op, p2Op, isTys, isTy, bindT, setN, setNs, items, lcLoop, nox, hidable, slotsT, wipeS, backS, isOwn, isInS, D.ints, D.bools, D.cmpOk, D.plain, D.plainAll, D.depth, D.depthAll, D.eqv, D.eqvAll, b2i, isNon, cutL, clip, lim, e1, e2, e3, hd, el, r2, r3, r4], p3, .two (.inl rfl) g g3⟩
/-- one of its parts is bent: v stands in p's place, or within it -/
inductive Bt (odd : D) : D → D → Prop where
  | here {p : D} : Bt odd p odd
  | round {p v : D} (h : Bt odd p v) : Bt odd (.tup [.str sRound, p]) (.tup [.str sRound, v])
  | left {k : List Nat} {p q v : D} (h : Bt odd p v) : Bt odd (.tup [.str k, p, q]) (.tup [.str k, v, q])
  | right {k : List Nat} {p q v : D} (h : Bt odd q v) : Bt odd (.tup [.str k, p, q]) (.tup [.str k, p, v])
theorem e_bent (L : Int) (odd : D) : ∀ (d n : Nat) (o : OD) (p : D), PotOk o → GP L d p → ∃ v o', sig par fns (n + d + 3) 20 [.r o, .v p, .v odd] = some (.ret (.v v) [o']) ∧ PotOk o' ∧ Bt odd p v := by
  intro d
  induction d with
  | zero =>
    intro n o p h g
    rw [sg_of par (n + 0 + 2) _ (fn := c__law_bent) rfl]
    cases g with
    | word w1 w2 => exact ⟨odd, o, by simp [c__law_bent, runFn, ioOk, slotOf, evSs, evS, evR, evAnd, evOr, evCs, evAs, evA, evEs, evRs, evIt, asP, fzR, readVar, movVar, R.bind, R.st, lift, frz, frzO, asBool, outsOf, resolve, binOp, cmpOp, idxOp, ixOf, slcOp, bnd, isNo, bndR, toArg, allSome, refsOf, putBack, permute, AV.isD, callIt, storeRV, storeRVs, asgT, asgTs, setOp, appOp, extOp, ownsL, p1Op, p2Op, isTys, isTy, bindT, setN, setNs, items, lcLoop, nox, hidable, slotsT, wipeS, backS, isOwn, isInS, D.ints, D.bools, D.cmpOk, D.plain, D.plainAll, D.depth, D.depthAll, D.eqv, D.eqvAll, b2i, isNon, cutL, clip, lim], h, .here⟩
    | name i0 i1 => exact ⟨odd, o, by simp [c__law_bent, runFn, ioOk, slotOf, evSs, evS, evR, evAnd, evOr, evCs, evAs, evA, evEs, evRs, evIt, asP, fzR, readVar, movVar, R.bind, R.st, lift, frz, frzO, asBool, outsOf, resolve, binOp, cmpOp, idxOp, ixOf, slcOp, bnd, isNo, bndR, toArg, allSome, refsOf, putBack, permute, AV.isD, callIt, storeRV, storeRVs, asgT, asgTs, setOp, appOp, extOp, ownsL, p1Op, p2Op, isTys, isTy, bindT, setN, setNs, items, lcLoop, nox, hidable, slotsT, wipeS, backS, isOwn, isInS, D.ints, D.bools, D.cmpOk, D.plain, D.plainAll, D.depth, D.depthAll, D.eqv, D.eqvAll, b2i, isNon, cutL, clip, lim], h, .here⟩
  | succ d ih =>
    intro n o p h g
    rw [sg_of par (n + (d + 1) + 2) _ (fn := c__law_bent) rfl]
    have e0 : n + (d + 1) + 2 = n + d + 3 := by omega
    rw [e0]
    cases g with
    | word w1 w2 => exact ⟨odd, o, by simp [c__law_bent, runFn, ioOk, slotOf, evSs, evS, evR, evAnd, evOr, evCs, evAs, evA, evEs, evRs, evIt, asP, fzR, readVar, movVar, R.bind, R.st, lift, frz, frzO, asBool, outsOf, resolve, binOp, cmpOp, idxOp, ixOf, slcOp, bnd, isNo, bndR, toArg, allSome, refsOf, putBack, permute, AV.isD, callIt, storeRV, storeRVs, asgT, asgTs, setOp, appOp, extOp, ownsL, p1Op, p2Op, isTys, isTy, bindT, setN, setNs, items, lcLoop, nox, hidable, slotsT, wipeS, backS, isOwn, isInS, D.ints, D.bools, D.cmpOk, D.plain, D.plainAll, D.depth, D.depthAll, D.eqv, D.eqvAll, b2i, isNon, cutL, clip, lim], h, .here⟩
    | name i0 i1 => exact ⟨odd, o, by simp [c__law_bent, runFn, ioOk, slotOf, evSs, evS, evR, evAnd, evOr, evCs, evAs, evA, evEs, evRs, evIt, asP, fzR, readVar, movVar, R.bind, R.st, lift, frz, frzO, asBool, outsOf, resolve, binOp, cmpOp, idxOp, ixOf, slcOp, bnd, isNo, bndR, toArg, allSome, refsOf, putBack, permute, AV.isD, callIt, storeRV, storeRVs, asgT, asgTs, setOp, appOp, extOp, ownsL, p1Op, p2Op, isTys, isTy, bindT, setN, setNs, items, lcLoop, nox, hidable, slotsT, wipeS, backS, isOwn, isInS, D.ints, D.bools, D.cmpOk, D.plain, D.plainAll, D.depth, D.depthAll, D.eqv, D.eqvAll, b2i, isNon, cutL, clip, lim], h, .here⟩
    | @round _ p g =>
      obtain ⟨r, o1, e1, p1, r0, r1⟩ := e_draw par (n + d + 2) o h 4 (by omega) (by omega)
      by_cases r2 : r = 0
      · subst r2
        exact ⟨odd, o1, by simp [c__law_bent, runFn, ioOk, slotOf, evSs, evS, evR, evAnd, evOr, evCs, evAs, evA, evEs, evRs, evIt, asP, fzR, readVar, movVar, R.bind, R.st, lift, frz, frzO, asBool, outsOf, resolve, binOp, cmpOp, idxOp, ixOf, slcOp, bnd, isNo, bndR, toArg, allSome, refsOf, putBack, permute, AV.isD, callIt, storeRV, storeRVs, asgT, asgTs, setOp, appOp, extOp, ownsL, p1Op, p2Op, isTys, isTy, bindT, setN, setNs, items, lcLoop, nox, hidable, slotsT, wipeS, backS, isOwn, isInS, D.ints, D.bools, D.cmpOk, D.plain, D.plainAll, D.depth, D.depthAll, D.eqv, D.eqvAll, b2i, isNon, cutL, clip, lim, e1], p1, .here⟩
      · obtain ⟨s, o2, e2, p2, s0, s1⟩ := e_draw par (n + d + 2) o1 p1 1 (by omega) (by omega)
        have hs : s = 0 := by omega
        subst hs
        obtain ⟨v, o3, e3, p3, b⟩ := ih n o2 p p2 g
        exact ⟨.tup [.str sRound, v], o3, by simp [c__law_bent, runFn, ioOk, slotOf, evSs, evS, evR, evAnd, evOr, evCs, evAs, evA, evEs, evRs, evIt, asP, fzR, readVar, movVar, R.bind, R.st, lift, frz, frzO, asBool, outsOf, resolve, binOp, cmpOp, idxOp, ixOf, slcOp, bnd, isNo, bndR, toArg, allSome, refsOf, putBack, permute, AV.isD, callIt, storeRV, storeRVs, asgT, asgTs, setOp, appOp, extOp, ownsL, p1Op, p2Op, isTys, isTy, bindT, setN, setNs, items, lcLoop, nox, hidable, slotsT, wipeS, backS, isOwn, isInS, D.ints, D.bools, D.cmpOk, D.plain, D.plainAll, D.depth, D.depthAll, D.eqv, D.eqvAll, b2i, isNon, cutL, clip, lim, e1, e2, e3, r2], p3, .round b⟩
    | @two _ k p q hk g g2 =>
      obtain ⟨r, o1, e1, p1, r0, r1⟩ := e_draw par (n + d + 2) o h 4 (by omega) (by omega)
      by_cases r2 : r = 0
      · subst r2
        exact ⟨odd, o1, by rcases hk with rfl | rfl <;> simp [c__law_bent, runFn, ioOk, slotOf, evSs, evS, evR, evAnd, evOr, evCs, evAs, evA, evEs, evRs, evIt, asP, fzR, readVar, movVar, R.bind, R.st, lift, frz, frzO, asBool, outsOf, resolve, binOp, cmpOp, idxOp, ixOf, slcOp, bnd, isNo, bndR, toArg, allSome, refsOf, putBack, permute, AV.isD, callIt, storeRV, storeRVs, asgT, asgTs, setOp, appOp, extOp, ownsL, p1Op, p2Op, isTys, isTy, bindT, setN, setNs, items, lcLoop, nox, hidable, slotsT, wipeS, backS, isOwn, isInS, D.ints, D.bools, D.cmpOk, D.plain, D.plainAll, D.depth, D.depthAll, D.eqv, D.eqvAll, b2i, isNon, cutL, clip, lim, e1], p1, .here⟩
      · obtain ⟨s, o2, e2, p2, s0, s1⟩ := e_draw par (n + d + 2) o1 p1 2 (by omega) (by omega)
        have hs : s = 0 ∨ s = 1 := by omega
        rcases hs with rfl | rfl
        · obtain ⟨v, o3, e3, p3, b⟩ := ih n o2 p p2 g
          exact ⟨.tup [.str k, v, q], o3, by rcases hk with rfl | rfl <;> simp [c__law_bent, runFn, ioOk, slotOf, evSs, evS, evR, evAnd, evOr, evCs, evAs, evA, evEs, evRs, evIt, asP, fzR, readVar, movVar, R.bind, R.st, lift, frz, frzO, asBool, outsOf, resolve, binOp, cmpOp, idxOp, ixOf, slcOp, bnd, isNo, bndR, toArg, allSome, refsOf, putBack, permute, AV.isD, callIt, storeRV, storeRVs, asgT, asgTs, setOp, appOp, extOp, ownsL, p1Op, p2Op, isTys, isTy, bindT, setN, setNs, items, lcLoop, nox, hidable, slotsT, wipeS, backS, isOwn, isInS, D.ints, D.bools, D.cmpOk, D.plain, D.plainAll, D.depth, D.depthAll, D.eqv, D.eqvAll, b2i, isNon, cutL, clip, lim, e1, e2, e3, r2], p3, .left b⟩
        · obtain ⟨v, o3, e3, p3, b⟩ := ih n o2 q p2 g2
          exact ⟨.tup [.str k, p, v], o3, by rcases hk with rfl | rfl <;> simp [c__law_bent, runFn, ioOk, slotOf, evSs, evS, evR, evAnd, evOr, evCs, evAs, evA, evEs, evRs, evIt, asP, fzR, readVar, movVar, R.bind, R.st, lift, frz, frzO, asBool, outsOf, resolve, binOp, cmpOp, idxOp, ixOf, slcOp, bnd, isNo, bndR, toArg, allSome, refsOf, putBack, permute, AV.isD, callIt, storeRV, storeRVs, asgT, asgTs, setOp, appOp, extOp, ownsL, p1Op, p2Op, isTys, isTy, bindT, setN, setNs, items, lcLoop, nox, hidable, slotsT, wipeS, backS, isOwn, isInS, D.ints, D.bools, D.cmpOk, D.plain, D.plainAll, D.depth, D.depthAll, D.eqv, D.eqvAll, b2i, isNon, cutL, clip, lim, e1, e2, e3, r2], p3, .right b⟩
end
end La

namespace La
open Py
def nms : Nat → D → List Int
  | d + 1, .tup [.str k, x] => if k = sWord then [] else if k = sName then (match x with | .int i => [i] | _ => []) else sortI (dedupI (nms d x))
  | d + 1, .tup [.str _, x, y] => sortI (dedupI (nms d x ++ nms d y))
  | _, _ => []
theorem insI_len (x : Int) : ∀ l : List Int, (insI x l).length = l.length + 1
  | [] => rfl
  | y :: l => by
    unfold insI
    split
    · simp
    · simp [insI_len x l]
theorem sortI_len : ∀ l : List Int, (sortI l).length = l.length
  | [] => rfl
  | x :: l => by rw [sortI, insI_len, sortI_len l, List.length_cons]
theorem dedupI_len : ∀ l : List Int, (dedupI l).length ≤ l.length
  | [] => Nat.le_refl _
  | x :: l => by
    have := dedupI_len l
    unfold dedupI
    split
    · rw [List.length_cons]; omega
    · rw [List.length_cons, List.length_cons]; omega
theorem ss_len (l : List Int) : (sortI (dedupI l)).length ≤ l.length := by rw [sortI_len]; exact dedupI_len l
theorem ints_map : ∀ l : List Int, D.ints (l.map D.int) = some l
  | [] => rfl
  | x :: l => by simp [D.ints, ints_map l]
theorem plain_map : ∀ l : List Int, D.plainAll (l.map D.int) = true
  | [] => rfl
  | x :: l => by simp [D.plainAll, D.plain, plain_map l]
theorem depth_map : ∀ l : List Int, D.depthAll (l.map D.int) = 0
  | [] => rfl
  | x :: l => by simp [D.depthAll, D.depth, depth_map l]
theorem eqv_map : ∀ l : List Int, D.eqvAll (l.map D.int) (l.map D.int) = true
  | [] => rfl
  | x :: l => by simp [D.eqvAll, D.eqv, eqv_map l]
theorem parts_pos (L : Int) (d : Nat) (v : D) : 1 ≤ parts 31 L d v := (parts_two L d v).1
section
variable (par : Par)
theorem e_names_in (L : Int) : ∀ (d n : Nat) (v : D), clean v = true → parts 31 L d v ≤ 30 → sig par fns (n + d + 1) 8 [.v v] = some (.ret (.o (.lst ((nms d v).map D.int))) []) ∧ ((nms d v).length : Int) ≤ parts 31 L d v
  | 0, n, v, _, hp => by simp [parts] at hp
  | d + 1, n, v, hc, hp => by
    rw [sg_of par (n + (d + 1)) _ (fn := c_names_in) rfl]
    have e0 : n + (d + 1) = n + d + 1 := by omega
    rw [e0]
    unfold parts at hp ⊢
    split at hp
    · rename_i h; cases h
    · rename_i d' k x e
      cases e
      simp only [clean, cleanAll, Bool.and_eq_true] at hc
      by_cases h1 : k = sWord
      · subst h1
        rw [if_pos rfl] at hp
        constructor
        · simp [c_names_in, runFn, ioOk, slotOf, evSs, evS, evR, evAnd, evOr, evCs, evAs, evA, evEs, evRs, evIt, asP, fzR, readVar, movVar, R.bind, R.st, lift, frz, frzO, asBool, outsOf, resolve, binOp, cmpOp, idxOp, ixOf, slcOp, bnd, isNo, bndR, toArg, allSome, refsOf, putBack, permute, AV.isD, callIt, storeRV, storeRVs, asgT, asgTs, setOp, appOp, extOp, ownsL, p1Op, p2Op, isTys, isTy, bindT, setN, setNs, items, lcLoop, nox, hidable, slotsT, wipeS, backS, isOwn, isInS, D.ints, D.bools, D.cmpOk, D.plain, D.plainAll, D.depth, D.depthAll, D.eqv, D.eqvAll, b2i, isNon, cutL, clip, lim, nms, sortI, dedupI]
        · simp [nms]
          split <;> simp
      · rw [if_neg h1] at hp
        by_cases h2 : k = sName
        · subst h2
          rw [if_pos rfl] at hp
          cases hx : nOk x with
          | false => rw [hx] at hp; simp at hp
          | true =>
            cases x with
            | int i => exact ⟨by simp [c_names_in, runFn, ioOk, slotOf, evSs, evS, evR, evAnd, evOr, evCs, evAs, evA, evEs, evRs, evIt, asP, fzR, readVar, movVar, R.bind, R.st, lift, frz, frzO, asBool, outsOf, resolve, binOp, cmpOp, idxOp, ixOf, slcOp, bnd, isNo, bndR, toArg, allSome, refsOf, putBack, permute, AV.isD, callIt, storeRV, storeRVs, asgT, asgTs, setOp, appOp, extOp, ownsL, p1Op, p2Op, isTys, isTy, bindT, setN, setNs, items, lcLoop, nox, hidable, slotsT, wipeS, backS, isOwn, isInS, D.ints, D.bools, D.cmpOk, D.plain, D.plainAll, D.depth, D.depthAll, D.eqv, D.eqvAll, b2i, isNon, cutL, clip, lim, nms], by simp [nms, hx]⟩
            | _ => simp [nOk] at hx
        · rw [if_neg h2] at hp
          by_cases h3 : k = sRound
          · subst h3
            rw [if_pos rfl] at hp
            obtain ⟨i1, i2⟩ := e_names_in L d n x hc.2.1 (by omega)
            have l1 : (nms d x).length < 64 := by omega
            have l2 : (nms d x).length ≤ 16777216 := by omega
            have l3 := ss_len (nms d x)
            constructor
            · simp [c_names_in, runFn, ioOk, slotOf, evSs, evS, evR, evAnd, evOr, evCs, evAs, evA, evEs, evRs, evIt, asP, fzR, readVar, movVar, R.bind, R.st, lift, frz, frzO, asBool, outsOf, resolve, binOp, cmpOp, idxOp, ixOf, slcOp, bnd, isNo, bndR, toArg, allSome, refsOf, putBack, permute, AV.isD, callIt, storeRV, storeRVs, asgT, asgTs, setOp, appOp, extOp, ownsL, p1Op, p2Op, isTys, isTy, bindT, setN, setNs, items, lcLoop, nox, hidable, slotsT, wipeS, backS, isOwn, isInS, D.ints, D.bools, D.cmpOk, D.plain, D.plainAll, D.depth, D.depthAll, D.eqv, D.eqvAll, b2i, isNon, cutL, clip, lim, nms, loopF, i1, ints_map, l1, l2]
            · simp [nms]
              omega
          · rw [if_neg h3] at hp
            omega
    · rename_i d' k x y e
      cases e
      simp only [clean, cleanAll, Bool.and_eq_true] at hc
      by_cases h4 : k = sBehind ∨ k = sEither
      · rw [if_pos h4] at hp ⊢
        have px := parts_pos L d x
        have py := parts_pos L d y
        obtain ⟨i1, i2⟩ := e_names_in L d n x hc.2.1 (by omega)
        obtain ⟨j1, j2⟩ := e_names_in L d n y hc.2.2.1 (by omega)
        have l1 : (nms d x).length + (nms d y).length < 64 := by omega
        have l2 : (nms d x).length ≤ 16777216 := by omega
        have l4 : (nms d x).length + (nms d y).length ≤ 16777216 := by omega
        have l3 := ss_len (nms d x ++ nms d y)
        rw [List.length_append] at l3
        have im : D.ints ((nms d x).map D.int ++ (nms d y).map D.int) = some (nms d x ++ nms d y) := by rw [← List.map_append]; exact ints_map _
        constructor
        · rcases h4 with rfl | rfl <;> simp [c_names_in, runFn, ioOk, slotOf, evSs, evS, evR, evAnd, evOr, evCs, evAs, evA, evEs, evRs, evIt, asP, fzR, readVar, movVar, R.bind, R.st, lift, frz, frzO, asBool, outsOf, resolve, binOp, cmpOp, idxOp, ixOf, slcOp, bnd, isNo, bndR, toArg, allSome, refsOf, putBack, permute, AV.isD, callIt, storeRV, storeRVs, asgT, asgTs, setOp, appOp, extOp, ownsL, p1Op, p2Op, isTys, isTy, bindT, setN, setNs, items, lcLoop, nox, hidable, slotsT, wipeS, backS, isOwn, isInS, D.ints, D.bools, D.cmpOk, D.plain, D.plainAll, D.depth, D.depthAll, D.eqv, D.eqvAll, b2i, isNon, cutL, clip, lim, nms, loopF, i1, j1, im, l1, l2, l4]
        · simp [nms]
          omega
      · rw [if_neg h4] at hp
        omega
    · omega
theorem e_law_names (L : Int) : ∀ (d n : Nat) (v : D), clean v = true → parts 31 L d v ≤ 30 → sig par fns (n + d + 1) 16 [.v v] = some (.ret (.v (.lst ((nms d v).map D.int))) [])
  | 0, n, v, _, hp => by simp [parts] at hp
  | d + 1, n, v, hc, hp => by
    have lens := fun x h h2 => (e_names_in par L d 0 x h h2).2
    rw [sg_of par (n + (d + 1)) _ (fn := c__law_names) rfl]
    have e0 : n + (d + 1) = n + d + 1 := by omega
    rw [e0]
    unfold parts at hp
    split at hp
    · rename_i h; cases h
    · rename_i d' k x e
      cases e
      simp only [clean, cleanAll, Bool.and_eq_true] at hc
      by_cases h1 : k = sWord
      · subst h1
        simp [c__law_names, runFn, ioOk, slotOf, evSs, evS, evR, evAnd, evOr, evCs, evAs, evA, evEs, evRs, evIt, asP, fzR, readVar, movVar, R.bind, R.st, lift, frz, frzO, asBool, outsOf, resolve, binOp, cmpOp, idxOp, ixOf, slcOp, bnd, isNo, bndR, toArg, allSome, refsOf, putBack, permute, AV.isD, callIt, storeRV, storeRVs, asgT, asgTs, setOp, appOp, extOp, ownsL, p1Op, p2Op, isTys, isTy, bindT, setN, setNs, items, lcLoop, nox, hidable, slotsT, wipeS, backS, isOwn, isInS, D.ints, D.bools, D.cmpOk, D.plain, D.plainAll, D.depth, D.depthAll, D.eqv, D.eqvAll, b2i, isNon, cutL, clip, lim, nms]
      · rw [if_neg h1] at hp
        by_cases h2 : k = sName
        · subst h2
          rw [if_pos rfl] at hp
          cases hx : nOk x with
          | false => rw [hx] at hp; simp at hp
          | true =>
            cases x with
            | int i => simp [c__law_names, runFn, ioOk, slotOf, evSs, evS, evR, evAnd, evOr, evCs, evAs, evA, evEs, evRs, evIt, asP, fzR, readVar, movVar, R.bind, R.st, lift, frz, frzO, asBool, outsOf, resolve, binOp, cmpOp, idxOp, ixOf, slcOp, bnd, isNo, bndR, toArg, allSome, refsOf, putBack, permute, AV.isD, callIt, storeRV, storeRVs, asgT, asgTs, setOp, appOp, extOp, ownsL, p1Op, p2Op, isTys, isTy, bindT, setN, setNs, items, lcLoop, nox, hidable, slotsT, wipeS, backS, isOwn, isInS, D.ints, D.bools, D.cmpOk, D.plain, D.plainAll, D.depth, D.depthAll, D.eqv, D.eqvAll, b2i, isNon, cutL, clip, lim, nms]
            | _ => simp [nOk] at hx
        · rw [if_neg h2] at hp
          by_cases h3 : k = sRound
          · subst h3
            rw [if_pos rfl] at hp
            have i1 := e_law_names L d n x hc.2.1 (by omega)
            have i2 := lens x hc.2.1 (by omega)
            have l1 : (nms d x).length < 64 := by omega
            have l2 : (nms d x).length ≤ 16777216 := by omega
            simp [c__law_names, runFn, ioOk, slotOf, evSs, evS, evR, evAnd, evOr, evCs, evAs, evA, evEs, evRs, evIt, asP, fzR, readVar, movVar, R.bind, R.st, lift, frz, frzO, asBool, outsOf, resolve, binOp, cmpOp, idxOp, ixOf, slcOp, bnd, isNo, bndR, toArg, allSome, refsOf, putBack, permute, AV.isD, callIt, storeRV, storeRVs, asgT, asgTs, setOp, appOp, extOp, ownsL, p1Op, p2Op, isTys, isTy, bindT, setN, setNs, items, lcLoop, nox, hidable, slotsT, wipeS, backS, isOwn, isInS, D.ints, D.bools, D.cmpOk, D.plain, D.plainAll, D.depth, D.depthAll, D.eqv, D.eqvAll, b2i, isNon, cutL, clip, lim, nms, loopF, i1, ints_map, l1, l2]
          · rw [if_neg h3] at hp
            omega
    · rename_i d' k x y e
      cases e
      simp only [clean, cleanAll, Bool.and_eq_true] at hc
      by_cases h4 : k = sBehind ∨ k = sEither
      · rw [if_pos h4] at hp
        have px := parts_pos L d x
        have py := parts_pos L d y
        have i1 := e_law_names L d n x hc.2.1 (by omega)
        have j1 := e_law_names L d n y hc.2.2.1 (by omega)
        have i2 := lens x hc.2.1 (by omega)
        have j2 := lens y hc.2.2.1 (by omega)
        have l1 : (nms d x).length + (nms d y).length < 64 := by omega
        have l2 : (nms d x).length ≤ 16777216 := by omega
        have l4 : (nms d x).length + (nms d y).length ≤ 16777216 := by omega
        have im : D.ints ((nms d x).map D.int ++ (nms d y).map D.int) = some (nms d x ++ nms d y) := by rw [← List.map_append]; exact ints_map _
        rcases h4 with rfl | rfl <;> simp [c__law_names, runFn, ioOk, slotOf, evSs, evS, evR, evAnd, evOr, evCs, evAs, evA, evEs, evRs, evIt, asP, fzR, readVar, movVar, R.bind, R.st, lift, frz, frzO, asBool, outsOf, resolve, binOp, cmpOp, idxOp, ixOf, slcOp, bnd, isNo, bndR, toArg, allSome, refsOf, putBack, permute, AV.isD, callIt, storeRV, storeRVs, asgT, asgTs, setOp, appOp, extOp, ownsL, p1Op, p2Op, isTys, isTy, bindT, setN, setNs, items, lcLoop, nox, hidable, slotsT, wipeS, backS, isOwn, isInS, D.ints, D.bools, D.cmpOk, D.plain, D.plainAll, D.depth, D.depthAll, D.eqv, D.eqvAll, b2i, isNon, cutL, clip, lim, nms, loopF, i1, j1, im, l1, l2, l4]
      · rw [if_neg h4] at hp
        omega
    · omega
theorem e_is_pattern (L : Int) (h1 : 1 ≤ L) (h2 : L ≤ 3) (m : Nat) (v : D) (h : clean v = true) : sig par fns (m + 15) 9 [.v (.int L), .v v] = some (.ret (.v (.bl (decide (parts 31 L 9 v ≤ 30)))) []) := by
  rw [sg_of par (m + 14) _ (fn := c_is_pattern) rfl]
  have e := e_is_pattern_of par L m v h
  have ew := e_want_letters par (m + 11) L h1 h2
  simp [c_is_pattern, runFn, ioOk, slotOf, evSs, evS, evR, evAnd, evOr, evCs, evAs, evA, evEs, evRs, evIt, asP, fzR, readVar, movVar, R.bind, R.st, lift, frz, frzO, asBool, outsOf, resolve, binOp, cmpOp, idxOp, ixOf, slcOp, bnd, isNo, bndR, toArg, allSome, refsOf, putBack, permute, AV.isD, callIt, storeRV, storeRVs, asgT, asgTs, setOp, appOp, extOp, ownsL, p1Op, p2Op, isTys, isTy, bindT, setN, setNs, items, lcLoop, nox, hidable, slotsT, wipeS, backS, isOwn, isInS, D.ints, D.bools, D.cmpOk, D.plain, D.plainAll, D.depth, D.depthAll, D.eqv, D.eqvAll, b2i, isNon, cutL, clip, lim, e, ew]
theorem e_names_of (L : Int) (h1 : 1 ≤ L) (h2 : L ≤ 3) (m : Nat) (v : D) (h : clean v = true) (hp : parts 31 L 9 v ≤ 30) : sig par fns (m + 16) 10 [.v (.int L), .v v] = some (.ret (.o (.lst ((nms 9 v).map D.int))) []) := by
  rw [sg_of par (m + 15) _ (fn := c_names_of) rfl]
  have e := e_is_pattern_of par L m v h
  have ew := e_want_letters par (m + 12) L h1 h2
  have ep : sig par fns (m + 15) 7 [.v (.int L), .v v] = some (.ret (.v .non) []) := by
    rw [sg_of par (m + 14) _ (fn := c_want_pattern) rfl]
    simp [c_want_pattern, runFn, ioOk, slotOf, evSs, evS, evR, evAnd, evOr, evCs, evAs, evA, evEs, evRs, evIt, asP, fzR, readVar, movVar, R.bind, R.st, lift, frz, frzO, asBool, outsOf, resolve, binOp, cmpOp, idxOp, ixOf, slcOp, bnd, isNo, bndR, toArg, allSome, refsOf, putBack, permute, AV.isD, callIt, storeRV, storeRVs, asgT, asgTs, setOp, appOp, extOp, ownsL, p1Op, p2Op, isTys, isTy, bindT, setN, setNs, items, lcLoop, nox, hidable, slotsT, wipeS, backS, isOwn, isInS, D.ints, D.bools, D.cmpOk, D.plain, D.plainAll, D.depth, D.depthAll, D.eqv, D.eqvAll, b2i, isNon, cutL, clip, lim, e, hp]
  have en := (e_names_in par L 9 (m + 5) v h hp).1
  have en' : sig par fns (m + 15) 8 [.v v] = some (.ret (.o (.lst ((nms 9 v).map D.int))) []) := en
  simp [c_names_of, runFn, ioOk, slotOf, evSs, evS, evR, evAnd, evOr, evCs, evAs, evA, evEs, evRs, evIt, asP, fzR, readVar, movVar, R.bind, R.st, lift, frz, frzO, asBool, outsOf, resolve, binOp, cmpOp, idxOp, ixOf, slcOp, bnd, isNo, bndR, toArg, allSome, refsOf, putBack, permute, AV.isD, callIt, storeRV, storeRVs, asgT, asgTs, setOp, appOp, extOp, ownsL, p1Op, p2Op, isTys, isTy, bindT, setN, setNs, items, lcLoop, nox, hidable, slotsT, wipeS, backS, isOwn, isInS, D.ints, D.bools, D.cmpOk, D.plain, D.plainAll, D.depth, D.depthAll, D.eqv, D.eqvAll, b2i, isNon, cutL, clip, lim, ew, ep, en']
end
end La

namespace La
open Py
def VOk (v : D) : Prop := clean v = true ∧ Showy v = true
theorem gp_good {L : Int} {d : Nat} {p : D} (g : GP L d p) : clean p = true ∧ safe p = true ∧ wt p + 72 ≤ 170 * 2 ^ d ∧ D.depth p ≤ d + 1 ∧ D.hasD p = false ∧ D.hasL p = false := by
  induction g with
  | @word d w h h2 =>
    have h3 : w.all (· < 128) = true := by
      rw [List.all_eq_true]
      intro c hc
      have := List.all_eq_true.mp h2 c hc
      have m : c ∈ abc := List.mem_of_mem_drop (List.mem_of_mem_take (of_decide_eq_true this))
      simp [abc] at m
      rcases m with rfl | rfl | rfl <;> rfl
    have h4 : w.length ≤ 1000 := by omega
    have := Nat.one_le_two_pow (n := d)
    refine ⟨rfl, ?_, ?_, ?_, rfl, rfl⟩
    · simp [safe, safeAll, h3, h4]
    · simp [wt, wtAll]; omega
    · simp [D.depth, D.depthAll]
  | @name d i h h2 =>
    have := Nat.one_le_two_pow (n := d)
    refine ⟨rfl, ?_, ?_, ?_, rfl, rfl⟩
    · simp [safe, safeAll]; omega
    · simp [wt, wtAll]; omega
    · simp [D.depth, D.depthAll]
  | @round d p h ih =>
    obtain ⟨a, b, c, e, f, g⟩ := ih
    refine ⟨by simp [clean, cleanAll, a], by simp [safe, safeAll, b], ?_, ?_, by simp [D.hasD, D.hasDs, f], by simp [D.hasL, D.hasLs, g]⟩
    · simp [wt, wtAll, Nat.pow_succ]; omega
    · simp [D.depth, D.depthAll]; omega
  | @two d k p q hk h h2 ih ih2 =>
    obtain ⟨a, b, c, e, f, g⟩ := ih
    obtain ⟨a2, b2, c2, e2, f2, g2⟩ := ih2
    refine ⟨by simp [clean, cleanAll, a, a2], ?_, ?_, ?_, by simp [D.hasD, D.hasDs, f, f2], by simp [D.hasL, D.hasLs, g, g2]⟩
    · rcases hk with rfl | rfl <;> simp [safe, safeAll, b, b2]
    · rcases hk with rfl | rfl <;> (simp [wt, wtAll, Nat.pow_succ]; omega)
    · simp [D.depth, D.depthAll]; omega
theorem bt_good {odd p v : D} (h : Bt odd p v) (hc : clean odd = true) (hs : safe odd = true) : clean p = true → safe p = true → D.hasD p = false → D.hasL p = false → clean v = true ∧ safe v = true ∧ wt v ≤ wt p + wt odd ∧ D.depth v ≤ D.depth p + D.depth odd ∧ (D.hasD v = true → D.hasD odd = true) ∧ (D.hasL v = true → D.hasL odd = true) := by
  induction h with
  | here => exact fun _ _ _ _ => ⟨hc, hs, by omega, by omega, id, id⟩
  | round h ih =>
    intro c s d l
    simp only [clean, cleanAll, Bool.and_eq_true] at c
    simp only [safe, safeAll, Bool.and_eq_true] at s
    simp [D.hasD, D.hasDs] at d
    simp [D.hasL, D.hasLs] at l
    obtain ⟨a1, a2, a3, a4, a5, a6⟩ := ih c.2.1 s.2.1 d l
    refine ⟨by simp [clean, cleanAll, a1], by simp [safe, safeAll, a2], ?_, ?_, by simpa [D.hasD, D.hasDs] using a5, by simpa [D.hasL, D.hasLs] using a6⟩
    · simp [wt, wtAll]; omega
    · simp [D.depth, D.depthAll]; omega
  | left h ih =>
    intro c s d l
    simp only [clean, cleanAll, Bool.and_eq_true] at c
    simp only [safe, safeAll, Bool.and_eq_true] at s
    simp [D.hasD, D.hasDs] at d
    simp [D.hasL, D.hasLs] at l
    obtain ⟨a1, a2, a3, a4, a5, a6⟩ := ih c.2.1 s.2.1 d.1 l.1
    refine ⟨by simp [clean, cleanAll, a1, c.2.2.1], by simp [safe, safeAll, a2, s.1, s.2.2.1], ?_, ?_, by simpa [D.hasD, D.hasDs, d.2] using a5, by simpa [D.hasL, D.hasLs, l.2] using a6⟩
    · simp [wt, wtAll]; omega
    · simp [D.depth, D.depthAll]; omega
  | right h ih =>
    intro c s d l
    simp only [clean, cleanAll, Bool.and_eq_true] at c
    simp only [safe, safeAll, Bool.and_eq_true] at s
    simp [D.hasD, D.hasDs] at d
    simp [D.hasL, D.hasLs] at l
    obtain ⟨a1, a2, a3, a4, a5, a6⟩ := ih c.2.2.1 s.2.2.1 d.2 l.2
    refine ⟨by simp [clean, cleanAll, a1, c.2.1], by simp [safe, safeAll, a2, s.1, s.2.1], ?_, ?_, by simpa [D.hasD, D.hasDs, d.1] using a5, by simpa [D.hasL, D.hasLs, l.1] using a6⟩
    · simp [wt, wtAll]; omega
    · simp [D.depth, D.depthAll]; omega
def noPar : Par := ⟨fun _ => none⟩
def runD (fn : Fn) (args : List Arg) : D := match runFn noPar (fun _ _ => none) fn args with
  | some (.ret (.v d) _) => d
  | _ => .non
abbrev w29 : D := runD c__law_wide [.v (.int 29)]
abbrev w31 : D := runD c__law_wide [.v (.int 31)]
abbrev dpn (m : Int) : D := runD c__law_deep [.v (.int m), .v (.tup [.str sName, .int 1])]
abbrev dpw (m : Int) : D := runD c__law_deep [.v (.int m), .v (.tup [.str sWord, .str [98]])]
def odds : List D := [.non, .bl true, .int 0, .str [97], .tup [], .lst [], .dct [] [], .tup [.str sName, .int 0], .tup [.str sName, .bl true], .tup [.str sName, .int 2], .tup [.str sName, .int 3],
  .tup [.str sWord, .str [97, 98, 99]], .tup [.str sWord, .str (List.replicate 60 97)], .tup [.str sWord, .str (List.replicate 61 97)], .tup [.str sWord, .lst [.str [97]]], .lst [.str sWord, .str [97]],
  .tup [.str sRound], .tup [.str sRound, .tup [.str sWord, .str [99]]], .tup [.str sEither, .tup [.str sWord, .str [97]]], .tup [.str sWord, .str [97], .str [98]],
  .tup [.str [87, 111, 114, 100], .str [97]], .tup [.str sName, .int (-1)], .tup [.str sName, .str [48]], .tup [.tup [.str sWord, .str [97]]], .tup [.str sBehind, .int 0, .int 1], .tup [.non, .str [97]]]
section
variable (par : Par)
theorem e_w29 (n : Nat) : sig par fns (n + 1) 21 [.v (.int 29)] = some (.ret (.v w29) []) := by rw [sg_of par n _ (fn := c__law_wide) rfl]; rfl
theorem e_w31 (n : Nat) : sig par fns (n + 1) 21 [.v (.int 31)] = some (.ret (.v w31) []) := by rw [sg_of par n _ (fn := c__law_wide) rfl]; rfl
theorem e_dpn (n : Nat) (m : Int) (h : m = 8 ∨ m = 9 ∨ m = 10) : sig par fns (n + 1) 22 [.v (.int m), .v (.tup [.str sName, .int 1])] = some (.ret (.v (dpn m)) []) := by
  rw [sg_of par n _ (fn := c__law_deep) rfl]
  rcases h with rfl | rfl | rfl <;> rfl
theorem e_dpw (n : Nat) (m : Int) (h : m = 8 ∨ m = 9 ∨ m = 10) : sig par fns (n + 1) 22 [.v (.int m), .v (.tup [.str sWord, .str [98]])] = some (.ret (.v (dpw m)) []) := by
  rw [sg_of par n _ (fn := c__law_deep) rfl]
  rcases h with rfl | rfl | rfl <;> rfl
def found0 (xs : List D) : List D := [.tup xs, .lst xs, .tup (xs ++ [.tup [.str sWord, .str []]]), .tup (xs.take 1), .tup [.str sRound, .tup xs], w29, w31, .tup [.str sRound, w29], .tup [.str sRound, .tup [.str sRound, w29]], dpn 8, dpw 8, dpn 9, dpw 9, dpn 10, dpw 10]
theorem odds_ok : ∀ v ∈ odds, clean v = true ∧ safe v = true ∧ wt v ≤ 1000 ∧ D.depth v ≤ 5 ∧ (D.hasD v && D.hasL v) = false := by
  have : odds.all (fun v => clean v && (safe v && (decide (wt v ≤ 1000) && (decide (D.depth v ≤ 5) && !(D.hasD v && D.hasL v))))) = true := by rfl
  intro v hv
  have := List.all_eq_true.mp this v hv
  simp only [Bool.and_eq_true, decide_eq_true_eq, Bool.not_eq_true'] at this
  obtain ⟨a, b, c, d, e⟩ := this
  exact ⟨a, b, c, d, e⟩
theorem loopF_all {b : D → Env → Option SO} {C : D → Prop} {I : Nat → Env → Prop} {N : Nat} (h : ∀ k d e, k < N → C d → I k e → ∃ e', I (k + 1) e' ∧ b d e = some (.nx e')) : ∀ (ds : List D) (k : Nat) (e : Env), k + ds.length ≤ N → (∀ d ∈ ds, C d) → I k e → ∃ e', I (k + ds.length) e' ∧ loopF b ds e = some (.nx e')
  | [], k, e, _, _, hI => ⟨e, hI, rfl⟩
  | d :: ds, k, e, hN, hc, hI => by
    rw [List.length_cons] at hN
    obtain ⟨e1, h1, h2⟩ := h k d e (by omega) (hc d List.mem_cons_self) hI
    obtain ⟨e2, h3, h4⟩ := loopF_all h ds (k + 1) e1 (by omega) (fun d' hd' => hc d' (List.mem_cons_of_mem _ hd')) h1
    refine ⟨e2, ?_, ?_⟩
    · have : k + (d :: ds).length = k + 1 + ds.length := by rw [List.length_cons]; omega
      rw [this]; exact h3
    · simp [loopF, h2, h4]
end
end La

namespace La
open Py
section
variable (par : Par)
theorem vok_bt {L : Int} {d : Nat} {odd p v : D} (hd : d ≤ 3) (g : GP L d p) (ho : odd ∈ odds) (b : Bt odd p v) : VOk v := by
  obtain ⟨a1, a2, a3, a4, a5, a6⟩ := gp_good g
  obtain ⟨o1, o2, o3, o4, o5⟩ := odds_ok odd ho
  obtain ⟨b1, b2, b3, b4, b5, b6⟩ := bt_good b o1 o2 a1 a2 a5 a6
  have h2 : 2 ^ d ≤ 2 ^ 3 := Nat.pow_le_pow_right (by omega) hd
  refine ⟨b1, ?_⟩
  unfold Showy
  have e : (D.hasD v && D.hasL v) = false := by
    cases x : D.hasD v with
    | false => rfl
    | true =>
      cases y : D.hasL v with
      | false => rfl
      | true => rw [b5 x, b6 y] at o5; exact o5
  rw [b2, e]
  simp
  omega
theorem vok_odd {v : D} (h : v ∈ odds) : VOk v := by
  obtain ⟨o1, o2, o3, o4, o5⟩ := odds_ok v h
  refine ⟨o1, ?_⟩
  unfold Showy
  rw [o2, o5]
  simp
  omega
/-- the last loop: each odd value, and the pattern bent by it -/
theorem e_loop (n : Nat) (L : Int) (p : D) (g : GP L 3 p) (s3 x5 : Slot) (o : OD) (h : PotOk o) (found : List D) (hl : found.length ≤ 20) (hf : ∀ v ∈ found, VOk v) :
    ∃ o' fin, PotOk o' ∧ (∀ v ∈ fin, VOk v) ∧ fin.length ≤ 100 ∧ ∃ x6, loopF (fun d e => (bindT (.n 6) d e).st fun _ e2 => evSs par (sig par fns (n + 6)) [.expr (.ext 4 (.lst [(.var 6), (.call 20 [.r 0, .v (.var 2), .v (.var 6)] [])]))] e2) odds [.own o, .fz (.int L), .fz p, s3, .own (.lst found), x5, .un] = some (.nx [.own o', .fz (.int L), .fz p, s3, .own (.lst fin), x5, x6]) := by
  obtain ⟨e', ⟨o', fin, x6, rfl, p1, l1, v1⟩, he⟩ := loopF_all (b := fun d e => (bindT (.n 6) d e).st fun _ e2 => evSs par (sig par fns (n + 6)) [.expr (.ext 4 (.lst [(.var 6), (.call 20 [.r 0, .v (.var 2), .v (.var 6)] [])]))] e2) (C := fun d => d ∈ odds)
    (I := fun k e => ∃ o' fin x6, e = [.own o', .fz (.int L), .fz p, s3, .own (.lst fin), x5, x6] ∧ PotOk o' ∧ fin.length ≤ 20 + 2 * k ∧ ∀ v ∈ fin, VOk v) (by
      rintro k d e hk hd ⟨o1, fin, x6, rfl, p1, l1, v1⟩
      · obtain ⟨v, o2, e2, p2, b⟩ := e_bent par L d 3 n o1 p p1 g
        refine ⟨[.own o2, .fz (.int L), .fz p, s3, .own (.lst (fin ++ [d, v])), x5, .fz d], ⟨o2, fin ++ [d, v], .fz d, rfl, p2, ?_, ?_⟩, ?_⟩
        · simp; omega
        · intro u hu
          rcases List.mem_append.mp hu with hu | hu
          · exact v1 u hu
          · rcases List.mem_cons.mp hu with rfl | hu
            · exact vok_odd hd
            · rw [List.mem_singleton.mp hu]
              exact vok_bt (by omega) g hd b
        · have l2 : fin.length + 2 ≤ 16777216 := by omega
          simp [runFn, ioOk, slotOf, evSs, evS, evR, evAnd, evOr, evCs, evAs, evA, evEs, evRs, evIt, asP, fzR, readVar, movVar, R.bind, R.st, lift, frz, frzO, asBool, outsOf, resolve, binOp, cmpOp, idxOp, ixOf, slcOp, bnd, isNo, bndR, toArg, allSome, refsOf, putBack, permute, AV.isD, callIt, storeRV, storeRVs, asgT, asgTs, setOp, appOp, extOp, ownsL, p1Op, p2Op, isTys, isTy, bindT, setN, setNs, items, lcLoop, nox, hidable, slotsT, wipeS, backS, isOwn, isInS, D.ints, D.bools, D.cmpOk, D.plain, D.plainAll, D.depth, D.depthAll, D.eqv, D.eqvAll, b2i, isNon, cutL, clip, lim, e2, l2]
      ) (N := 30) odds 0 [.own o, .fz (.int L), .fz p, s3, .own (.lst found), x5, .un] (by decide) (fun d hd => hd) ⟨o, found, .un, rfl, h, by omega, hf⟩
  exact ⟨o', fin, p1, v1, by simpa [odds] using Nat.le_trans l1 (by decide), x6, he⟩
theorem app_cl : ∀ xs ys : List D, cleanAll (xs ++ ys) = (cleanAll xs && cleanAll ys)
  | [], ys => by simp [cleanAll]
  | x :: xs, ys => by simp [cleanAll, app_cl xs ys, Bool.and_assoc]
theorem app_sf : ∀ xs ys : List D, safeAll (xs ++ ys) = (safeAll xs && safeAll ys)
  | [], ys => by simp [safeAll]
  | x :: xs, ys => by simp [safeAll, app_sf xs ys, Bool.and_assoc]
theorem app_wt : ∀ xs ys : List D, wtAll (xs ++ ys) = wtAll xs + wtAll ys
  | [], ys => by simp [wtAll]
  | x :: xs, ys => by simp [wtAll, app_wt xs ys] <;> omega
theorem app_dp : ∀ xs ys : List D, D.depthAll (xs ++ ys) = max (D.depthAll xs) (D.depthAll ys)
  | [], ys => by simp [D.depthAll]
  | x :: xs, ys => by simp [D.depthAll, app_dp xs ys] <;> omega
theorem app_hd : ∀ xs ys : List D, D.hasDs (xs ++ ys) = (D.hasDs xs || D.hasDs ys)
  | [], ys => by simp [D.hasDs]
  | x :: xs, ys => by simp [D.hasDs, app_hd xs ys, Bool.or_assoc]
theorem app_hl : ∀ xs ys : List D, D.hasLs (xs ++ ys) = (D.hasLs xs || D.hasLs ys)
  | [], ys => by simp [D.hasLs]
  | x :: xs, ys => by simp [D.hasLs, app_hl xs ys, Bool.or_assoc]
theorem found_ok {L : Int} {xs : List D} (g : GP L 3 (.tup xs)) : ∀ v ∈ found0 xs, VOk v := by
  obtain ⟨a1, a2, a3, a4, a5, a6⟩ := gp_good g
  have conc : ∀ v ∈ [w29, w31, .tup [.str sRound, w29], .tup [.str sRound, .tup [.str sRound, w29]], dpn 8, dpw 8, dpn 9, dpw 9, dpn 10, dpw 10], VOk v := by
    have : ([w29, w31, .tup [.str sRound, w29], .tup [.str sRound, .tup [.str sRound, w29]], dpn 8, dpw 8, dpn 9, dpw 9, dpn 10, dpw 10] : List D).all (fun v => clean v && Showy v) = true := by rfl
    intro v hv
    have := List.all_eq_true.mp this v hv
    rw [Bool.and_eq_true] at this
    exact this
  simp only [clean] at a1
  simp only [safe] at a2
  simp only [wt] at a3
  simp only [D.depth] at a4
  simp only [D.hasD] at a5
  simp only [D.hasL] at a6
  have five : ∀ v ∈ ([.tup xs, .lst xs, .tup (xs ++ [.tup [.str sWord, .str []]]), .tup (xs.take 1), .tup [.str sRound, .tup xs]] : List D), VOk v := by
    intro v hv
    simp only [List.mem_cons, List.not_mem_nil, or_false] at hv
    rcases hv with rfl | rfl | rfl | rfl | rfl
    · exact ⟨by simp [clean, a1], by simp [Showy, safe, a2, wt, D.depth, D.hasD, a5]; omega⟩
    · exact ⟨by simp [clean, a1], by simp [Showy, safe, a2, wt, D.depth, D.hasD, a5]; omega⟩
    · refine ⟨by simp [clean, app_cl, a1, cleanAll], ?_⟩
      simp [Showy, safe, app_sf, a2, wt, app_wt, D.depth, app_dp, D.hasD, app_hd, a5, safeAll, wtAll, D.depthAll, D.hasDs]
      omega
    · cases xs with
      | nil => exact ⟨rfl, rfl⟩
      | cons x r =>
        simp only [cleanAll, Bool.and_eq_true] at a1
        simp only [safeAll, Bool.and_eq_true] at a2
        simp only [wtAll] at a3
        simp only [D.depthAll] at a4
        simp only [D.hasDs, Bool.or_eq_false_iff] at a5
        refine ⟨by simp [clean, cleanAll, a1.1], ?_⟩
        simp [Showy, safe, a2.1, wt, D.depth, D.hasD, a5.1, safeAll, wtAll, D.depthAll, D.hasDs]
        omega
    · refine ⟨by simp [clean, a1, cleanAll], ?_⟩
      simp [Showy, safe, a2, wt, D.depth, D.hasD, a5, safeAll, wtAll, D.depthAll, D.hasDs]
      omega
  intro v hv
  have : v ∈ ([.tup xs, .lst xs, .tup (xs ++ [.tup [.str sWord, .str []]]), .tup (xs.take 1), .tup [.str sRound, .tup xs]] : List D) ++ [w29, w31, .tup [.str sRound, w29], .tup [.str sRound, .tup [.str sRound, w29]], dpn 8, dpw 8, dpn 9, dpw 9, dpn 10, dpw 10] := hv
  rcases List.mem_append.mp this with h | h
  · exact five v h
  · exact conc v h
/-- a body but its last statements -/
theorem evSs_app (Φ : Sig) : ∀ (a b : List S) (e e1 : Env), evSs par Φ a e = some (.nx e1) → evSs par Φ (a ++ b) e = evSs par Φ b e1
  | [], b, e, e1, h => by cases h; rfl
  | s :: a, b, e, e1, h => by
    have h' : (match evS par Φ s e with
      | some (.nx e2) => evSs par Φ a e2
      | r => r) = some (.nx e1) := h
    show (match evS par Φ s e with
      | some (.nx e2) => evSs par Φ (a ++ b) e2
      | r => r) = _
    cases q : evS par Φ s e with
    | none => rw [q] at h'; cases h'
    | some o =>
      rw [q] at h'
      cases o with
      | nx e2 => exact evSs_app Φ a b e2 e1 h'
      | _ => cases h'
theorem e_values (n : Nat) (L : Int) (p : D) (g : GP L 3 p) (o : OD) (h : PotOk o) : ∃ o' fin, sig par fns (n + 7) 23 [.r o, .v (.int L), .v p] = some (.ret (.v (.lst fin)) [o']) ∧ PotOk o' ∧ (∀ v ∈ fin, VOk v) ∧ fin.length ≤ 100 := by
  rw [sg_of par (n + 6) _ (fn := c__law_values) rfl]
  obtain ⟨xs, rfl⟩ : ∃ xs, p = .tup xs := by cases g <;> exact ⟨_, rfl⟩
  obtain ⟨o', fin, p1, v1, l1, x6, hloop⟩ := e_loop par n L (.tup xs) g (.fz (.lst odds)) (.fz (.int 10)) o h (found0 xs) (by simp [found0]) (found_ok g)
  refine ⟨o', fin, ?_, p1, v1, l1⟩
  have hx : xs.length + 1 ≤ 16777216 := by cases g <;> simp
  have w1 : sig par fns (n + 6) 21 [.v (.int 29)] = some (.ret (.v w29) []) := e_w29 par (n + 5)
  have w2 : sig par fns (n + 6) 21 [.v (.int 31)] = some (.ret (.v w31) []) := e_w31 par (n + 5)
  have d1 : ∀ m, m = 8 ∨ m = 9 ∨ m = 10 → sig par fns (n + 6) 22 [.v (.int m), .v (.tup [.str sName, .int 1])] = some (.ret (.v (dpn m)) []) := e_dpn par (n + 5)
  have d2 : ∀ m, m = 8 ∨ m = 9 ∨ m = 10 → sig par fns (n + 6) 22 [.v (.int m), .v (.tup [.str sWord, .str [98]])] = some (.ret (.v (dpw m)) []) := e_dpw par (n + 5)
  have first : evSs par (sig par fns (n + 6)) (c__law_values.body.take 7) [.own o, .fz (.int L), .fz (.tup xs), .un, .un, .un, .un] = some (.nx [.own o, .fz (.int L), .fz (.tup xs), .own (.lst odds), .own (.lst (found0 xs)), .fz (.int 10), .un]) := by
    simp [c__law_values, runFn, ioOk, slotOf, evSs, evS, evR, evAnd, evOr, evCs, evAs, evA, evEs, evRs, evIt, asP, fzR, readVar, movVar, R.bind, R.st, lift, frz, frzO, asBool, outsOf, resolve, binOp, cmpOp, idxOp, ixOf, slcOp, bnd, isNo, bndR, toArg, allSome, refsOf, putBack, permute, AV.isD, callIt, storeRV, storeRVs, asgT, asgTs, setOp, appOp, extOp, ownsL, p1Op, p2Op, isTys, isTy, bindT, setN, setNs, items, lcLoop, nox, hidable, slotsT, wipeS, backS, isOwn, isInS, D.ints, D.bools, D.cmpOk, D.plain, D.plainAll, D.depth, D.depthAll, D.eqv, D.eqvAll, b2i, isNon, cutL, clip, lim, w1, w2, loopF, d1, d2, hx, odds, found0]
  have whole : evSs par (sig par fns (n + 6)) c__law_values.body [.own o, .fz (.int L), .fz (.tup xs), .un, .un, .un, .un] = some (.rt (.v (.lst fin)) [.own o', .fz (.int L), .fz (.tup xs), .fz (.lst odds), .fz (.lst fin), .fz (.int 10), x6]) := by
    have e : c__law_values.body = c__law_values.body.take 7 ++ [.fr (.n 6) (.e (.var 3)) [.expr (.ext 4 (.lst [(.var 6), (.call 20 [.r 0, .v (.var 2), .v (.var 6)] [])]))], .ret false (.var 4)] := rfl
    rw [e, evSs_app par _ _ _ _ _ first]
    have e2 : evS par (sig par fns (n + 6)) (.fr (.n 6) (.e (.var 3)) [.expr (.ext 4 (.lst [(.var 6), (.call 20 [.r 0, .v (.var 2), .v (.var 6)] [])]))]) [.own o, .fz (.int L), .fz (.tup xs), .own (.lst odds), .own (.lst (found0 xs)), .fz (.int 10), .un] = some (.nx [.own o', .fz (.int L), .fz (.tup xs), .fz (.lst odds), .own (.lst fin), .fz (.int 10), x6]) := by
      rw [← hloop]
      rfl
    show (match evS par (sig par fns (n + 6)) _ _ with
      | some (.nx e1) => evSs par (sig par fns (n + 6)) [.ret false (.var 4)] e1
      | r => r) = _
    rw [e2]
    rfl
  unfold runFn
  rw [if_pos ⟨rfl, rfl⟩]
  have e6 : ([Arg.r o, Arg.v (.int L), Arg.v (.tup xs)].map slotOf ++ List.replicate (c__law_values.nslots - c__law_values.nargs) Slot.un) = [.own o, .fz (.int L), .fz (.tup xs), .un, .un, .un, .un] := rfl
  rw [e6, whole]
  rfl
end
end La

namespace La
open Py
section
variable (par : Par)
abbrev turnB : List S := [.par [(false, 5), (false, 6)] [(.p1 .repr (.var 4)), (.call 19 [.v (.var 1), .v (.var 4)] [])], .asg true (.n 7) (.ite (.cmp .eq (.bin .mod (.var 3) (.cst (.int 2))) (.cst (.int 0))) (.call 9 [.v (.var 1), .v (.var 4)] []) (.call 9 [.v (.var 4), .v (.var 1)] [1, 0])), .ifs (.or [(.cmp .ne (.p1 .repr (.bor 7)) (.p1 .repr (.var 6))), (.cmp .ne (.p1 .repr (.var 4)) (.var 5))]) [.ret false (.cst (.bl false))] [], .ifs (.and [(.var 6), (.cmp .ne (.call 10 [.v (.var 1), .v (.var 4)] []) (.call 16 [.v (.var 4)] []))]) [.ret false (.cst (.bl false))] []]
theorem e_turn (hsh : ∀ v, Showy v = true → ∃ s, par.sh v = some s) (m : Nat) (L : Int) (h1 : 1 ≤ L) (h2 : L ≤ 3) (o : OD) (p v : D) (i : Nat) (hv : VOk v) (a5 a6 a7 : Slot) :
    ∃ b5 b6 b7, evSs par (sig par fns (m + 16)) turnB [.own o, .fz (.int L), .fz p, .fz (.int i), .fz v, a5, a6, a7] = some (.nx [.own o, .fz (.int L), .fz p, .fz (.int i), .fz v, b5, b6, b7]) := by
  obtain ⟨hc, hs⟩ := hv
  obtain ⟨s, es⟩ := hsh v hs
  obtain ⟨t, et⟩ := hsh (.bl (decide (parts 31 L 9 v ≤ 30))) (by cases decide (parts 31 L 9 v ≤ 30) <;> rfl)
  have x1 : sig par fns (m + 16) 19 [.v (.int L), .v v] = some (.ret (.v (.bl (decide (parts 31 L 9 v ≤ 30)))) []) := by
    rw [due_same]
    exact e_law_is_pattern par L (m + 4) v hc
  have x2 : sig par fns (m + 16) 9 [.v (.int L), .v v] = some (.ret (.v (.bl (decide (parts 31 L 9 v ≤ 30)))) []) := e_is_pattern par L h1 h2 (m + 1) v hc
  refine ⟨.fz (.str s), .fz (.bl (decide (parts 31 L 9 v ≤ 30))), .fz (.bl (decide (parts 31 L 9 v ≤ 30))), ?_⟩
  generalize hdue : decide (parts 31 L 9 v ≤ 30) = due at x1 x2 et
  by_cases hi : (i : Int).fmod 2 = 0
  · cases due with
    | false => simp [turnB, runFn, ioOk, slotOf, evSs, evS, evR, evAnd, evOr, evCs, evAs, evA, evEs, evRs, evIt, asP, fzR, readVar, movVar, R.bind, R.st, lift, frz, frzO, asBool, outsOf, resolve, binOp, cmpOp, idxOp, ixOf, slcOp, bnd, isNo, bndR, toArg, allSome, refsOf, putBack, permute, AV.isD, callIt, storeRV, storeRVs, asgT, asgTs, setOp, appOp, extOp, ownsL, p1Op, p2Op, isTys, isTy, bindT, setN, setNs, items, lcLoop, nox, hidable, slotsT, wipeS, backS, isOwn, isInS, D.ints, D.bools, D.cmpOk, D.plain, D.plainAll, D.depth, D.depthAll, D.eqv, D.eqvAll, b2i, isNon, cutL, clip, lim, es, et, x1, x2, hi]
    | true =>
      have hp : parts 31 L 9 v ≤ 30 := of_decide_eq_true hdue
      have y1 := e_names_of par L h1 h2 m v hc hp
      have y2 := e_law_names par L 9 (m + 6) v hc hp
      have y2' : sig par fns (m + 16) 16 [.v v] = some (.ret (.v (.lst ((nms 9 v).map D.int))) []) := y2
      simp [turnB, runFn, ioOk, slotOf, evSs, evS, evR, evAnd, evOr, evCs, evAs, evA, evEs, evRs, evIt, asP, fzR, readVar, movVar, R.bind, R.st, lift, frz, frzO, asBool, outsOf, resolve, binOp, cmpOp, idxOp, ixOf, slcOp, bnd, isNo, bndR, toArg, allSome, refsOf, putBack, permute, AV.isD, callIt, storeRV, storeRVs, asgT, asgTs, setOp, appOp, extOp, ownsL, p1Op, p2Op, isTys, isTy, bindT, setN, setNs, items, lcLoop, nox, hidable, slotsT, wipeS, backS, isOwn, isInS, D.ints, D.bools, D.cmpOk, D.plain, D.plainAll, D.depth, D.depthAll, D.eqv, D.eqvAll, b2i, isNon, cutL, clip, lim, es, et, x1, x2, hi, y1, y2', plain_map, depth_map, eqv_map]
  · cases due with
    | false => simp [turnB, runFn, ioOk, slotOf, evSs, evS, evR, evAnd, evOr, evCs, evAs, evA, evEs, evRs, evIt, asP, fzR, readVar, movVar, R.bind, R.st, lift, frz, frzO, asBool, outsOf, resolve, binOp, cmpOp, idxOp, ixOf, slcOp, bnd, isNo, bndR, toArg, allSome, refsOf, putBack, permute, AV.isD, callIt, storeRV, storeRVs, asgT, asgTs, setOp, appOp, extOp, ownsL, p1Op, p2Op, isTys, isTy, bindT, setN, setNs, items, lcLoop, nox, hidable, slotsT, wipeS, backS, isOwn, isInS, D.ints, D.bools, D.cmpOk, D.plain, D.plainAll, D.depth, D.depthAll, D.eqv, D.eqvAll, b2i, isNon, cutL, clip, lim, es, et, x1, x2, hi]
    | true =>
      have hp : parts 31 L 9 v ≤ 30 := of_decide_eq_true hdue
      have y1 := e_names_of par L h1 h2 m v hc hp
      have y2 := e_law_names par L 9 (m + 6) v hc hp
      have y2' : sig par fns (m + 16) 16 [.v v] = some (.ret (.v (.lst ((nms 9 v).map D.int))) []) := y2
      simp [turnB, runFn, ioOk, slotOf, evSs, evS, evR, evAnd, evOr, evCs, evAs, evA, evEs, evRs, evIt, asP, fzR, readVar, movVar, R.bind, R.st, lift, frz, frzO, asBool, outsOf, resolve, binOp, cmpOp, idxOp, ixOf, slcOp, bnd, isNo, bndR, toArg, allSome, refsOf, putBack, permute, AV.isD, callIt, storeRV, storeRVs, asgT, asgTs, setOp, appOp, extOp, ownsL, p1Op, p2Op, isTys, isTy, bindT, setN, setNs, items, lcLoop, nox, hidable, slotsT, wipeS, backS, isOwn, isInS, D.ints, D.bools, D.cmpOk, D.plain, D.plainAll, D.depth, D.depthAll, D.eqv, D.eqvAll, b2i, isNon, cutL, clip, lim, es, et, x1, x2, hi, y1, y2', plain_map, depth_map, eqv_map]
theorem gp_parts {L : Int} (h1 : 1 ≤ L) {d : Nat} {p : D} (g : GP L d p) : ∀ k, d < k → parts 31 L k p ≤ 2 ^ (d + 1) - 1 := by
  induction g with
  | @word d w h h2 =>
    intro k hk
    cases k with
    | zero => omega
    | succ k =>
      have h3 : w.length ≤ 60 := by omega
      have h4 := Nat.one_le_two_pow (n := d)
      have e : ((2 : Int) ^ (d + 1)) = 2 * ((2 ^ d : Nat) : Int) := by rw [Int.pow_succ]; push_cast; omega
      simp [parts, wOk, h2, h3]
      rw [e]; omega
  | @name d i h h2 =>
    intro k hk
    cases k with
    | zero => omega
    | succ k =>
      have h4 := Nat.one_le_two_pow (n := d)
      have e : ((2 : Int) ^ (d + 1)) = 2 * ((2 ^ d : Nat) : Int) := by rw [Int.pow_succ]; push_cast; omega
      simp [parts, nOk, h, h2]
      rw [e]; omega
  | @round d p h ih =>
    intro k hk
    cases k with
    | zero => omega
    | succ k =>
      have := ih k (by omega)
      have h4 := Nat.one_le_two_pow (n := d)
      have e : ((2 : Int) ^ (d + 1)) = 2 * ((2 ^ d : Nat) : Int) := by rw [Int.pow_succ]; push_cast; omega
      have e2 : ((2 : Int) ^ (d + 1 + 1)) = 4 * ((2 ^ d : Nat) : Int) := by rw [Int.pow_succ, e]; omega
      simp [parts]
      rw [e2]; rw [e] at this; omega
  | @two d k' p q hkk h h2 ih ih2 =>
    intro k hk
    cases k with
    | zero => omega
    | succ k =>
      have t1 := ih k (by omega)
      have t2 := ih2 k (by omega)
      have h4 := Nat.one_le_two_pow (n := d)
      have e : ((2 : Int) ^ (d + 1)) = 2 * ((2 ^ d : Nat) : Int) := by rw [Int.pow_succ]; push_cast; omega
      have e2 : ((2 : Int) ^ (d + 1 + 1)) = 4 * ((2 ^ d : Nat) : Int) := by rw [Int.pow_succ, e]; omega
      have e3 : parts 31 L (k + 1) (.tup [.str k', p, q]) = 1 + (parts 31 L k p + parts 31 L k q) := by
        simp only [parts]
        rw [if_pos hkk]
      rw [e3, e2]
      rw [e] at t1 t2
      omega
theorem e_right (hsh : ∀ v, Showy v = true → ∃ s, par.sh v = some s) (m : Nat) (o : OD) (h : PotOk o) : ∃ o', sig par fns (m + 17) 24 [.r o] = some (.ret (.v (.bl true)) [o']) := by
  rw [sg_of par (m + 16) _ (fn := c__law_right) rfl]
  obtain ⟨r, o1, e1, p1, r0, r1⟩ := e_draw par (m + 15) o h 3 (by omega) (by omega)
  have hL1 : 1 ≤ 1 + r := by omega
  have hL2 : 1 + r ≤ 3 := by omega
  obtain ⟨p, o2, e2, p2, g⟩ := e_pattern par (1 + r) hL1 hL2 3 (m + 9) o1 p1
  have e2' : sig par fns (m + 16) 15 [.r o1, .v (.int (1 + r)), .v (.int 3), .v (.int 3)] = some (.ret (.v p) [o2]) := e2
  obtain ⟨o3, fin, e3, p3, v3, l3⟩ := e_values par (m + 9) (1 + r) p g o2 p2
  have e3' : sig par fns (m + 16) 23 [.r o2, .v (.int (1 + r)), .v p] = some (.ret (.v (.lst fin)) [o3]) := e3
  obtain ⟨e', ⟨b3, b4, b5, b6, b7, rfl⟩, hloop⟩ := loopF_all (b := fun d e => (bindT (.t [(.n 3), (.n 4)]) d e).st fun _ e2 => evSs par (sig par fns (m + 16)) turnB e2) (C := fun d => ∃ (i : Nat) (v : D), d = .tup [.int i, v] ∧ VOk v) (N := fin.length)
    (I := fun _ e => ∃ b3 b4 b5 b6 b7, e = [.own o3, .fz (.int (1 + r)), .fz p, b3, b4, b5, b6, b7]) (by
      rintro k d e hk ⟨i, v, rfl, hv⟩ ⟨b3, b4, b5, b6, b7, rfl⟩
      obtain ⟨c5, c6, c7, ht⟩ := e_turn par hsh m (1 + r) hL1 hL2 o3 p v i hv b5 b6 b7
      exact ⟨_, ⟨_, _, _, _, _, rfl⟩, ht⟩) ((List.range fin.length).zipWith (fun (k : Nat) x => D.tup [.int k, x]) fin) 0 [.own o3, .fz (.int (1 + r)), .fz p, .un, .un, .un, .un, .un] (by simp) (by
      intro d hd
      obtain ⟨i, hi⟩ := List.mem_iff_getElem?.mp hd
      rw [List.getElem?_zipWith] at hi
      cases q : (List.range fin.length)[i]? with
      | none => rw [q] at hi; cases hi
      | some k =>
        cases q2 : fin[i]? with
        | none => rw [q, q2] at hi; cases hi
        | some v => rw [q, q2] at hi; cases hi; exact ⟨k, v, rfl, v3 v (List.mem_of_getElem? q2)⟩) ⟨_, _, _, _, _, rfl⟩
  obtain ⟨a1, _⟩ := gp_good g
  have hp : parts 31 (1 + r) 9 p ≤ 30 := by
    have := gp_parts hL1 g 9 (by omega)
    omega
  have y1 := e_names_of par (1 + r) hL1 hL2 m p a1 hp
  refine ⟨o3, ?_⟩
  have hdrop : ∀ l : List Int, cutL (l.map D.int ++ [D.non]) none (some (-1)) = l.map D.int := by
    intro l
    have e : clip (l.map D.int ++ [D.non]).length (-1) = l.length := by
      unfold clip
      rw [if_neg (by omega)]
      simp
      omega
    unfold cutL
    simp only [e]
    simp
  have first : evSs par (sig par fns (m + 16)) (c__law_right.body.take 2) [.own o, .un, .un, .un, .un, .un, .un, .un] = some (.nx [.own o2, .fz (.int (1 + r)), .fz p, .un, .un, .un, .un, .un]) := by
    simp [c__law_right, runFn, ioOk, slotOf, evSs, evS, evR, evAnd, evOr, evCs, evAs, evA, evEs, evRs, evIt, asP, fzR, readVar, movVar, R.bind, R.st, lift, frz, frzO, asBool, outsOf, resolve, binOp, cmpOp, idxOp, ixOf, slcOp, bnd, isNo, bndR, toArg, allSome, refsOf, putBack, permute, AV.isD, callIt, storeRV, storeRVs, asgT, asgTs, setOp, appOp, extOp, ownsL, p1Op, p2Op, isTys, isTy, bindT, setN, setNs, items, lcLoop, nox, hidable, slotsT, wipeS, backS, isOwn, isInS, D.ints, D.bools, D.cmpOk, D.plain, D.plainAll, D.depth, D.depthAll, D.eqv, D.eqvAll, b2i, isNon, cutL, clip, lim, e1, e2']
  have second : evS par (sig par fns (m + 16)) (.fr (.t [(.n 3), (.n 4)]) (.en (.call 23 [.r 0, .v (.var 1), .v (.var 2)] [])) turnB) [.own o2, .fz (.int (1 + r)), .fz p, .un, .un, .un, .un, .un] = some (.nx [.own o3, .fz (.int (1 + r)), .fz p, b3, b4, b5, b6, b7]) := by
    rw [← hloop]
    have ei : evIt par (sig par fns (m + 16)) (.en (.call 23 [.r 0, .v (.var 1), .v (.var 2)] [])) [.own o2, .fz (.int (1 + r)), .fz p, .un, .un, .un, .un, .un] = some (.ok ((List.range fin.length).zipWith (fun (k : Nat) x => D.tup [.int k, x]) fin) [.own o3, .fz (.int (1 + r)), .fz p, .un, .un, .un, .un, .un]) := by
      simp [runFn, ioOk, slotOf, evSs, evS, evR, evAnd, evOr, evCs, evAs, evA, evEs, evRs, evIt, asP, fzR, readVar, movVar, R.bind, R.st, lift, frz, frzO, asBool, outsOf, resolve, binOp, cmpOp, idxOp, ixOf, slcOp, bnd, isNo, bndR, toArg, allSome, refsOf, putBack, permute, AV.isD, callIt, storeRV, storeRVs, asgT, asgTs, setOp, appOp, extOp, ownsL, p1Op, p2Op, isTys, isTy, bindT, setN, setNs, items, lcLoop, nox, hidable, slotsT, wipeS, backS, isOwn, isInS, D.ints, D.bools, D.cmpOk, D.plain, D.plainAll, D.depth, D.depthAll, D.eqv, D.eqvAll, b2i, isNon, cutL, clip, lim, e3']
    show R.st (evIt par (sig par fns (m + 16)) (.en (.call 23 [.r 0, .v (.var 1), .v (.var 2)] [])) _) _ = _
    rw [ei]
    rfl
  have hlen : (nms 9 p).length < 16777216 := by
    have := (e_names_in par (1 + r) 9 0 p a1 hp).2
    omega
  have third : evSs par (sig par fns (m + 16)) (c__law_right.body.drop 3) [.own o3, .fz (.int (1 + r)), .fz p, b3, b4, b5, b6, b7] = some (.rt (.v (.bl true)) [.own o3, .fz (.int (1 + r)), .fz p, b3, b4, b5, b6, .own (.lst ((nms 9 p).map D.int ++ [.non]))]) := by
    simp [c__law_right, runFn, ioOk, slotOf, evSs, evS, evR, evAnd, evOr, evCs, evAs, evA, evEs, evRs, evIt, asP, fzR, readVar, movVar, R.bind, R.st, lift, frz, frzO, asBool, outsOf, resolve, binOp, cmpOp, idxOp, ixOf, slcOp, bnd, isNo, bndR, toArg, allSome, refsOf, putBack, permute, AV.isD, callIt, storeRV, storeRVs, asgT, asgTs, setOp, appOp, extOp, ownsL, p1Op, p2Op, isTys, isTy, bindT, setN, setNs, items, lcLoop, nox, hidable, slotsT, wipeS, backS, isOwn, isInS, D.ints, D.bools, D.cmpOk, D.plain, D.plainAll, D.depth, D.depthAll, D.eqv, D.eqvAll, b2i, isNon, cutL, clip, lim, y1, hlen, hdrop, plain_map, depth_map, eqv_map, -cutL, -clip]
  have whole : evSs par (sig par fns (m + 16)) c__law_right.body [.own o, .un, .un, .un, .un, .un, .un, .un] = some (.rt (.v (.bl true)) [.own o3, .fz (.int (1 + r)), .fz p, b3, b4, b5, b6, .own (.lst ((nms 9 p).map D.int ++ [.non]))]) := by
    have e : c__law_right.body = c__law_right.body.take 2 ++ (.fr (.t [(.n 3), (.n 4)]) (.en (.call 23 [.r 0, .v (.var 1), .v (.var 2)] [])) turnB :: c__law_right.body.drop 3) := rfl
    rw [e, evSs_app par _ _ _ _ _ first]
    show (match evS par (sig par fns (m + 16)) _ _ with
      | some (.nx e1) => evSs par (sig par fns (m + 16)) (c__law_right.body.drop 3) e1
      | r => r) = _
    rw [second]
    exact third
  unfold runFn
  rw [if_pos ⟨rfl, rfl⟩]
  have e6 : ([Arg.r o].map slotOf ++ List.replicate (c__law_right.nslots - c__law_right.nargs) Slot.un) = [.own o, .un, .un, .un, .un, .un, .un, .un] := rfl
  rw [e6, whole]
  rfl
theorem e_law (hsh : ∀ v, Showy v = true → ∃ s, par.sh v = some s) (m : Nat) (ns : List Int) (h : ns.length ≤ 63) : sig par fns (m + 18) 25 [.v (.scr ns)] = some (.ret (.v (.bl true)) []) := by
  rw [sg_of par (m + 17) _ (fn := c_law) rfl]
  obtain ⟨o, e1, p1⟩ := e_pot par (m + 16) ns h
  obtain ⟨o2, e2⟩ := e_right par hsh m o p1
  simp [c_law, runFn, ioOk, slotOf, evSs, evS, evR, evAnd, evOr, evCs, evAs, evA, evEs, evRs, evIt, asP, fzR, readVar, movVar, R.bind, R.st, lift, frz, frzO, asBool, outsOf, resolve, binOp, cmpOp, idxOp, ixOf, slcOp, bnd, isNo, bndR, toArg, allSome, refsOf, putBack, permute, AV.isD, callIt, storeRV, storeRVs, asgT, asgTs, setOp, appOp, extOp, ownsL, p1Op, p2Op, isTys, isTy, bindT, setN, setNs, items, lcLoop, nox, hidable, slotsT, wipeS, backS, isOwn, isInS, D.ints, D.bools, D.cmpOk, D.plain, D.plainAll, D.depth, D.depthAll, D.eqv, D.eqvAll, b2i, isNon, cutL, clip, lim, e1, e2]
end
end La

set_option maxHeartbeats 0
namespace La
open PySem PySem.Spec PyProof.Rows L2 Py
def top (i : Nat) : Stmt := PySem.Challenge.pw_widefills_k41_any_value_as_pattern.main.body.getD i (.Pass ⟨0, 0, 0, 0⟩)
def dd (x : PySem.Str) (st : Stmt) : He.DefD := ⟨(x, none), x, x, defArgs st, defBody st, defScope st, [], []⟩
def dm (c x q : PySem.Str) (st : Stmt) : He.DefD := ⟨(c, some x), x, q, defArgs st, defBody st, defScope st, [], []⟩
def fn : List He.DefD := [dm "InvalidLetters" "__init__" "InvalidLetters.__init__" (inClass (top 2) 0), dm "InvalidPattern" "__init__" "InvalidPattern.__init__" (inClass (top 3) 0), dd "is_integer" (top 5), dd "is_count" (top 6), dd "want_letters" (top 11), dd "is_word_of" (top 12), dd "is_name_number" (top 22), dd "many_parts" (top 23), dd "is_pattern_of" (top 24), dd "want_pattern" (top 25), dd "names_in" (top 26), dd "is_pattern" (top 27), dd "names_of" (top 28), dd "_law_pot" (top 30), dd "_law_draw" (top 31), dd "_law_word" (top 32), dd "_law_leaf" (top 33), dd "_law_pattern" (top 34), dd "_law_names" (top 35), dd "_law_is_small" (top 36), dd "_law_look" (top 37), dd "_law_is_pattern" (top 38), dd "_law_bent" (top 39), dd "_law_wide" (top 40), dd "_law_deep" (top 41), dd "_law_values" (top 42), dd "_law_right" (top 43), dd "law" (top 44)]
def fa : List He.Fa := [.glo "FillError", .glo "InvalidLetters", .meth "InvalidLetters" "__init__", .glo "InvalidPattern", .meth "InvalidPattern" "__init__", .glo "is_integer", .glo "is_count", .str "SIGNS" "abc", .int "MOST_LETTERS" 3, .int "MOST_SIGNS" 60, .glo "want_letters", .glo "is_word_of", .int "MOST_PARTS" 30, .int "MOST_DEEP" 9, .int "MOST_NAME" 2, .str "WORD" "word", .str "NAME" "name", .str "BEHIND" "behind", .str "EITHER" "either", .str "ROUND" "round", .glo "is_name_number", .glo "many_parts", .glo "is_pattern_of", .glo "want_pattern", .glo "names_in", .glo "is_pattern", .glo "names_of", .glo "_law_pot", .glo "_law_draw", .glo "_law_word", .glo "_law_leaf", .glo "_law_pattern", .glo "_law_names", .glo "_law_is_small", .glo "_law_look", .glo "_law_is_pattern", .glo "_law_bent", .glo "_law_wide", .glo "_law_deep", .glo "_law_values", .glo "_law_right", .glo "law", .free "isinstance", .free "int", .free "bool", .free "all", .free "str", .free "len", .free "sum", .free "tuple", .free "sorted", .free "set", .free "abs", .free "max", .free "divmod", .free "range", .free "list", .free "enumerate", .free "repr"]
def names : List PySem.Str := ([("FillError" : PySem.Str), ("InvalidLetters" : PySem.Str), ("InvalidPattern" : PySem.Str), ("is_integer" : PySem.Str), ("is_count" : PySem.Str), ("SIGNS" : PySem.Str), ("MOST_LETTERS" : PySem.Str), ("MOST_SIGNS" : PySem.Str), ("want_letters" : PySem.Str), ("is_word_of" : PySem.Str), ("MOST_PARTS" : PySem.Str), ("MOST_DEEP" : PySem.Str), ("MOST_NAME" : PySem.Str), ("WORD" : PySem.Str), ("NAME" : PySem.Str), ("BEHIND" : PySem.Str), ("EITHER" : PySem.Str), ("ROUND" : PySem.Str), ("is_name_number" : PySem.Str), ("many_parts" : PySem.Str), ("is_pattern_of" : PySem.Str), ("want_pattern" : PySem.Str), ("names_in" : PySem.Str), ("is_pattern" : PySem.Str), ("names_of" : PySem.Str), ("_law_pot" : PySem.Str), ("_law_draw" : PySem.Str), ("_law_word" : PySem.Str), ("_law_leaf" : PySem.Str), ("_law_pattern" : PySem.Str), ("_law_names" : PySem.Str), ("_law_is_small" : PySem.Str), ("_law_look" : PySem.Str), ("_law_is_pattern" : PySem.Str), ("_law_bent" : PySem.Str)] : List PySem.Str) ++ ([("_law_wide" : PySem.Str), ("_law_deep" : PySem.Str), ("_law_values" : PySem.Str), ("_law_right" : PySem.Str)] : List PySem.Str)
abbrev R : PySem.W.OpenRow := PySem.W.OpenLaw.row PySem.Challenge.rw_widefills_k41_any_value_as_pattern
abbrev hk : PySem.W.Hook := He.hookD 5 fa fn
def ob (s : PySem.W.SharedT) : He.AlD := He.obsDG 5 fa fn (HandSHeadRun.getT s)
theorem ob_eq (s : PySem.W.SharedT) : ob s = hk.obs s.abs := He.obsDG_eq (HandSHeadRun.getT_eq s)
theorem run (w : World) : HandSHeadRun.RunEq R (PySem.W.view R.prog [44]) hk ob 2000 names w := by
  intro os
  kernel_rfl
def Gt : Gtab := ⟨["isinstance", "int", "bool", "all", "str", "len", "sum", "tuple", "sorted", "set", "abs", "max", "divmod", "range", "list", "enumerate", "repr"], [("SIGNS", .str [97, 98, 99]), ("MOST_LETTERS", .int 3), ("MOST_SIGNS", .int 60), ("MOST_PARTS", .int 30), ("MOST_DEEP", .int 9), ("MOST_NAME", .int 2), ("WORD", .str [119, 111, 114, 100]), ("NAME", .str [110, 97, 109, 101]), ("BEHIND", .str [98, 101, 104, 105, 110, 100]), ("EITHER", .str [101, 105, 116, 104, 101, 114]), ("ROUND", .str [114, 111, 117, 110, 100])], ["is_integer", "is_count", "want_letters", "is_word_of", "is_name_number", "many_parts", "is_pattern_of", "want_pattern", "names_in", "is_pattern", "names_of", "_law_pot", "_law_draw", "_law_word", "_law_leaf", "_law_pattern", "_law_names", "_law_is_small", "_law_look", "_law_is_pattern", "_law_bent", "_law_wide", "_law_deep", "_law_values", "_law_right", "law"], [⟨9, 0, ["value", "letters"], [1, 0]⟩, ⟨10, 0, ["pattern", "letters"], [1, 0]⟩]⟩
section
variable {P : Program} {w : World} {K : PySem.W.Frag} {h : Heap} {mg : Str → Option Value} {base : Heap}
theorem p_0 (X : K.In h) (G : h.Ns mainGlobals mg) (c : He.SaysD fa fn K) : FnsAt Gt P w K mg base fns 0 "is_integer" := by
  obtain ⟨fd, F⟩ := c.def_ 2 (d := dd "is_integer" (top 5)) rfl
  refine fns_at (N := [("value" : Str)]) (ps := [("value" : Str)]) F (He.glo_ok X G (c.fact 5 (f := .glo "is_integer") rfl)) rfl ⟨rfl, rfl, rfl, by decide +kernel, rfl, by decide +kernel, by decide +kernel⟩ (by decide +kernel) ?_ ?_
  · exact fun kV doc pm an cdv ct us hl => match us, hl with | [_], _ => rfl
  · intro s hs e kV doc pm an cdv ct
    simp only [Gt, List.mem_cons, List.not_mem_nil, or_false] at hs
    rcases hs with rfl | rfl
    · exact absurd e (by decide)
    · exact absurd e (by decide)
theorem p_1 (X : K.In h) (G : h.Ns mainGlobals mg) (c : He.SaysD fa fn K) : FnsAt Gt P w K mg base fns 1 "is_count" := by
  obtain ⟨fd, F⟩ := c.def_ 3 (d := dd "is_count" (top 6)) rfl
  refine fns_at (N := [("value" : Str)]) (ps := [("value" : Str)]) F (He.glo_ok X G (c.fact 6 (f := .glo "is_count") rfl)) rfl ⟨rfl, rfl, rfl, by decide +kernel, rfl, by decide +kernel, by decide +kernel⟩ (by decide +kernel) ?_ ?_
  · exact fun kV doc pm an cdv ct us hl => match us, hl with | [_], _ => rfl
  · intro s hs e kV doc pm an cdv ct
    simp only [Gt, List.mem_cons, List.not_mem_nil, or_false] at hs
    rcases hs with rfl | rfl
    · exact absurd e (by decide)
    · exact absurd e (by decide)
theorem p_2 (X : K.In h) (G : h.Ns mainGlobals mg) (c : He.SaysD fa fn K) : FnsAt Gt P w K mg base fns 2 "want_letters" := by
  obtain ⟨fd, F⟩ := c.def_ 4 (d := dd "want_letters" (top 11)) rfl
  refine fns_at (N := [("value" : Str)]) (ps := [("value" : Str)]) F (He.glo_ok X G (c.fact 10 (f := .glo "want_letters") rfl)) rfl ⟨rfl, rfl, rfl, by decide +kernel, rfl, by decide +kernel, by decide +kernel⟩ (by decide +kernel) ?_ ?_
  · exact fun kV doc pm an cdv ct us hl => match us, hl with | [_], _ => rfl
  · intro s hs e kV doc pm an cdv ct
    simp only [Gt, List.mem_cons, List.not_mem_nil, or_false] at hs
    rcases hs with rfl | rfl
    · exact absurd e (by decide)
    · exact absurd e (by decide)
theorem p_3 (X : K.In h) (G : h.Ns mainGlobals mg) (c : He.SaysD fa fn K) : FnsAt Gt P w K mg base fns 3 "is_word_of" := by
  obtain ⟨fd, F⟩ := c.def_ 5 (d := dd "is_word_of" (top 12)) rfl
  refine fns_at (N := [("letters" : Str), ("value" : Str), ("sign" : Str)]) (ps := [("letters" : Str), ("value" : Str)]) F (He.glo_ok X G (c.fact 11 (f := .glo "is_word_of") rfl)) rfl ⟨rfl, rfl, rfl, by decide +kernel, rfl, by decide +kernel, by decide +kernel⟩ (by decide +kernel) ?_ ?_
  · exact fun kV doc pm an cdv ct us hl => match us, hl with | [_, _], _ => rfl
  · intro s hs e kV doc pm an cdv ct
    simp only [Gt, List.mem_cons, List.not_mem_nil, or_false] at hs
    rcases hs with rfl | rfl
    · exact absurd e (by decide)
    · exact absurd e (by decide)
theorem p_4 (X : K.In h) (G : h.Ns mainGlobals mg) (c : He.SaysD fa fn K) : FnsAt Gt P w K mg base fns 4 "is_name_number" := by
  obtain ⟨fd, F⟩ := c.def_ 6 (d := dd "is_name_number" (top 22)) rfl
  refine fns_at (N := [("value" : Str)]) (ps := [("value" : Str)]) F (He.glo_ok X G (c.fact 20 (f := .glo "is_name_number") rfl)) rfl ⟨rfl, rfl, rfl, by decide +kernel, rfl, by decide +kernel, by decide +kernel⟩ (by decide +kernel) ?_ ?_
  · exact fun kV doc pm an cdv ct us hl => match us, hl with | [_], _ => rfl
  · intro s hs e kV doc pm an cdv ct
    simp only [Gt, List.mem_cons, List.not_mem_nil, or_false] at hs
    rcases hs with rfl | rfl
    · exact absurd e (by decide)
    · exact absurd e (by decide)
theorem p_5 (X : K.In h) (G : h.Ns mainGlobals mg) (c : He.SaysD fa fn K) : FnsAt Gt P w K mg base fns 5 "many_parts" := by
  obtain ⟨fd, F⟩ := c.def_ 7 (d := dd "many_parts" (top 23)) rfl
  refine fns_at (N := [("letters" : Str), ("value" : Str), ("deep" : Str), ("wrong" : Str), ("is_right" : Str), ("part" : Str)]) (ps := [("letters" : Str), ("value" : Str), ("deep" : Str)]) F (He.glo_ok X G (c.fact 21 (f := .glo "many_parts") rfl)) rfl ⟨rfl, rfl, rfl, by decide +kernel, rfl, by decide +kernel, by decide +kernel⟩ (by decide +kernel) ?_ ?_
  · exact fun kV doc pm an cdv ct us hl => match us, hl with | [_, _, _], _ => rfl
  · intro s hs e kV doc pm an cdv ct
    simp only [Gt, List.mem_cons, List.not_mem_nil, or_false] at hs
    rcases hs with rfl | rfl
    · exact absurd e (by decide)
    · exact absurd e (by decide)
theorem p_6 (X : K.In h) (G : h.Ns mainGlobals mg) (c : He.SaysD fa fn K) : FnsAt Gt P w K mg base fns 6 "is_pattern_of" := by
  obtain ⟨fd, F⟩ := c.def_ 8 (d := dd "is_pattern_of" (top 24)) rfl
  refine fns_at (N := [("letters" : Str), ("value" : Str)]) (ps := [("letters" : Str), ("value" : Str)]) F (He.glo_ok X G (c.fact 22 (f := .glo "is_pattern_of") rfl)) rfl ⟨rfl, rfl, rfl, by decide +kernel, rfl, by decide +kernel, by decide +kernel⟩ (by decide +kernel) ?_ ?_
  · exact fun kV doc pm an cdv ct us hl => match us, hl with | [_, _], _ => rfl
  · intro s hs e kV doc pm an cdv ct
    simp only [Gt, List.mem_cons, List.not_mem_nil, or_false] at hs
    rcases hs with rfl | rfl
    · exact absurd e (by decide)
    · exact absurd e (by decide)
theorem p_7 (X : K.In h) (G : h.Ns mainGlobals mg) (c : He.SaysD fa fn K) : FnsAt Gt P w K mg base fns 7 "want_pattern" := by
  obtain ⟨fd, F⟩ := c.def_ 9 (d := dd "want_pattern" (top 25)) rfl
  refine fns_at (N := [("letters" : Str), ("value" : Str)]) (ps := [("letters" : Str), ("value" : Str)]) F (He.glo_ok X G (c.fact 23 (f := .glo "want_pattern") rfl)) rfl ⟨rfl, rfl, rfl, by decide +kernel, rfl, by decide +kernel, by decide +kernel⟩ (by decide +kernel) ?_ ?_
  · exact fun kV doc pm an cdv ct us hl => match us, hl with | [_, _], _ => rfl
  · intro s hs e kV doc pm an cdv ct
    simp only [Gt, List.mem_cons, List.not_mem_nil, or_false] at hs
    rcases hs with rfl | rfl
    · exact absurd e (by decide)
    · exact absurd e (by decide)
theorem p_8 (X : K.In h) (G : h.Ns mainGlobals mg) (c : He.SaysD fa fn K) : FnsAt Gt P w K mg base fns 8 "names_in" := by
  obtain ⟨fd, F⟩ := c.def_ 10 (d := dd "names_in" (top 26)) rfl
  refine fns_at (N := [("pattern" : Str), ("found" : Str), ("part" : Str)]) (ps := [("pattern" : Str)]) F (He.glo_ok X G (c.fact 24 (f := .glo "names_in") rfl)) rfl ⟨rfl, rfl, rfl, by decide +kernel, rfl, by decide +kernel, by decide +kernel⟩ (by decide +kernel) ?_ ?_
  · exact fun kV doc pm an cdv ct us hl => match us, hl with | [_], _ => rfl
  · intro s hs e kV doc pm an cdv ct
    simp only [Gt, List.mem_cons, List.not_mem_nil, or_false] at hs
    rcases hs with rfl | rfl
    · exact absurd e (by decide)
    · exact absurd e (by decide)
theorem p_9 (X : K.In h) (G : h.Ns mainGlobals mg) (c : He.SaysD fa fn K) : FnsAt Gt P w K mg base fns 9 "is_pattern" := by
  obtain ⟨fd, F⟩ := c.def_ 11 (d := dd "is_pattern" (top 27)) rfl
  refine fns_at (N := [("letters" : Str), ("value" : Str)]) (ps := [("letters" : Str), ("value" : Str)]) F (He.glo_ok X G (c.fact 25 (f := .glo "is_pattern") rfl)) rfl ⟨rfl, rfl, rfl, by decide +kernel, rfl, by decide +kernel, by decide +kernel⟩ (by decide +kernel) ?_ ?_
  · exact fun kV doc pm an cdv ct us hl => match us, hl with | [_, _], _ => rfl
  · intro s hs e kV doc pm an cdv ct
    simp only [Gt, List.mem_cons, List.not_mem_nil, or_false] at hs
    rcases hs with rfl | rfl
    · exact fun us ws h1 h2 => match us, ws, h1, h2 with | [], [_, _], _, _ => rfl
    · exact absurd e (by decide)
theorem p_10 (X : K.In h) (G : h.Ns mainGlobals mg) (c : He.SaysD fa fn K) : FnsAt Gt P w K mg base fns 10 "names_of" := by
  obtain ⟨fd, F⟩ := c.def_ 12 (d := dd "names_of" (top 28)) rfl
  refine fns_at (N := [("letters" : Str), ("pattern" : Str)]) (ps := [("letters" : Str), ("pattern" : Str)]) F (He.glo_ok X G (c.fact 26 (f := .glo "names_of") rfl)) rfl ⟨rfl, rfl, rfl, by decide +kernel, rfl, by decide +kernel, by decide +kernel⟩ (by decide +kernel) ?_ ?_
  · exact fun kV doc pm an cdv ct us hl => match us, hl with | [_, _], _ => rfl
  · intro s hs e kV doc pm an cdv ct
    simp only [Gt, List.mem_cons, List.not_mem_nil, or_false] at hs
    rcases hs with rfl | rfl
    · exact absurd e (by decide)
    · exact fun us ws h1 h2 => match us, ws, h1, h2 with | [], [_, _], _, _ => rfl
theorem p_11 (X : K.In h) (G : h.Ns mainGlobals mg) (c : He.SaysD fa fn K) : FnsAt Gt P w K mg base fns 11 "_law_pot" := by
  obtain ⟨fd, F⟩ := c.def_ 13 (d := dd "_law_pot" (top 30)) rfl
  refine fns_at (N := [("_law_script" : Str), ("_law_k" : Str), ("_law_cell" : Str)]) (ps := [("_law_script" : Str), ("_law_k" : Str)]) F (He.glo_ok X G (c.fact 27 (f := .glo "_law_pot") rfl)) rfl ⟨rfl, rfl, rfl, by decide +kernel, rfl, by decide +kernel, by decide +kernel⟩ (by decide +kernel) ?_ ?_
  · exact fun kV doc pm an cdv ct us hl => match us, hl with | [_, _], _ => rfl
  · intro s hs e kV doc pm an cdv ct
    simp only [Gt, List.mem_cons, List.not_mem_nil, or_false] at hs
    rcases hs with rfl | rfl
    · exact absurd e (by decide)
    · exact absurd e (by decide)
theorem p_12 (X : K.In h) (G : h.Ns mainGlobals mg) (c : He.SaysD fa fn K) : FnsAt Gt P w K mg base fns 12 "_law_draw" := by
  obtain ⟨fd, F⟩ := c.def_ 14 (d := dd "_law_draw" (top 31)) rfl
  refine fns_at (N := [("_law_pot_here" : Str), ("_law_size" : Str), ("_law_digit" : Str)]) (ps := [("_law_pot_here" : Str), ("_law_size" : Str)]) F (He.glo_ok X G (c.fact 28 (f := .glo "_law_draw") rfl)) rfl ⟨rfl, rfl, rfl, by decide +kernel, rfl, by decide +kernel, by decide +kernel⟩ (by decide +kernel) ?_ ?_
  · exact fun kV doc pm an cdv ct us hl => match us, hl with | [_, _], _ => rfl
  · intro s hs e kV doc pm an cdv ct
    simp only [Gt, List.mem_cons, List.not_mem_nil, or_false] at hs
    rcases hs with rfl | rfl
    · exact absurd e (by decide)
    · exact absurd e (by decide)
theorem p_13 (X : K.In h) (G : h.Ns mainGlobals mg) (c : He.SaysD fa fn K) : FnsAt Gt P w K mg base fns 13 "_law_word" := by
  obtain ⟨fd, F⟩ := c.def_ 15 (d := dd "_law_word" (top 32)) rfl
  refine fns_at (N := [("_law_pot_here" : Str), ("_law_letters" : Str), ("_law_most" : Str), ("_law_found" : Str), ("_law_turn" : Str)]) (ps := [("_law_pot_here" : Str), ("_law_letters" : Str), ("_law_most" : Str)]) F (He.glo_ok X G (c.fact 29 (f := .glo "_law_word") rfl)) rfl ⟨rfl, rfl, rfl, by decide +kernel, rfl, by decide +kernel, by decide +kernel⟩ (by decide +kernel) ?_ ?_
  · exact fun kV doc pm an cdv ct us hl => match us, hl with | [_, _, _], _ => rfl
  · intro s hs e kV doc pm an cdv ct
    simp only [Gt, List.mem_cons, List.not_mem_nil, or_false] at hs
    rcases hs with rfl | rfl
    · exact absurd e (by decide)
    · exact absurd e (by decide)
theorem p_14 (X : K.In h) (G : h.Ns mainGlobals mg) (c : He.SaysD fa fn K) : FnsAt Gt P w K mg base fns 14 "_law_leaf" := by
  obtain ⟨fd, F⟩ := c.def_ 16 (d := dd "_law_leaf" (top 33)) rfl
  refine fns_at (N := [("_law_pot_here" : Str), ("_law_letters" : Str), ("_law_names_here" : Str)]) (ps := [("_law_pot_here" : Str), ("_law_letters" : Str), ("_law_names_here" : Str)]) F (He.glo_ok X G (c.fact 30 (f := .glo "_law_leaf") rfl)) rfl ⟨rfl, rfl, rfl, by decide +kernel, rfl, by decide +kernel, by decide +kernel⟩ (by decide +kernel) ?_ ?_
  · exact fun kV doc pm an cdv ct us hl => match us, hl with | [_, _, _], _ => rfl
  · intro s hs e kV doc pm an cdv ct
    simp only [Gt, List.mem_cons, List.not_mem_nil, or_false] at hs
    rcases hs with rfl | rfl
    · exact absurd e (by decide)
    · exact absurd e (by decide)
theorem p_15 (X : K.In h) (G : h.Ns mainGlobals mg) (c : He.SaysD fa fn K) : FnsAt Gt P w K mg base fns 15 "_law_pattern" := by
  obtain ⟨fd, F⟩ := c.def_ 17 (d := dd "_law_pattern" (top 34)) rfl
  refine fns_at (N := [("_law_pot_here" : Str), ("_law_letters" : Str), ("_law_names_here" : Str), ("_law_deep_here" : Str), ("_law_way" : Str), ("_law_near" : Str)]) (ps := [("_law_pot_here" : Str), ("_law_letters" : Str), ("_law_names_here" : Str), ("_law_deep_here" : Str)]) F (He.glo_ok X G (c.fact 31 (f := .glo "_law_pattern") rfl)) rfl ⟨rfl, rfl, rfl, by decide +kernel, rfl, by decide +kernel, by decide +kernel⟩ (by decide +kernel) ?_ ?_
  · exact fun kV doc pm an cdv ct us hl => match us, hl with | [_, _, _, _], _ => rfl
  · intro s hs e kV doc pm an cdv ct
    simp only [Gt, List.mem_cons, List.not_mem_nil, or_false] at hs
    rcases hs with rfl | rfl
    · exact absurd e (by decide)
    · exact absurd e (by decide)
theorem p_16 (X : K.In h) (G : h.Ns mainGlobals mg) (c : He.SaysD fa fn K) : FnsAt Gt P w K mg base fns 16 "_law_names" := by
  obtain ⟨fd, F⟩ := c.def_ 18 (d := dd "_law_names" (top 35)) rfl
  refine fns_at (N := [("_law_pattern_here" : Str), ("_law_found" : Str), ("_law_part" : Str)]) (ps := [("_law_pattern_here" : Str)]) F (He.glo_ok X G (c.fact 32 (f := .glo "_law_names") rfl)) rfl ⟨rfl, rfl, rfl, by decide +kernel, rfl, by decide +kernel, by decide +kernel⟩ (by decide +kernel) ?_ ?_
  · exact fun kV doc pm an cdv ct us hl => match us, hl with | [_], _ => rfl
  · intro s hs e kV doc pm an cdv ct
    simp only [Gt, List.mem_cons, List.not_mem_nil, or_false] at hs
    rcases hs with rfl | rfl
    · exact absurd e (by decide)
    · exact absurd e (by decide)
theorem p_17 (X : K.In h) (G : h.Ns mainGlobals mg) (c : He.SaysD fa fn K) : FnsAt Gt P w K mg base fns 17 "_law_is_small" := by
  obtain ⟨fd, F⟩ := c.def_ 19 (d := dd "_law_is_small" (top 36)) rfl
  refine fns_at (N := [("_law_value" : Str), ("_law_most" : Str)]) (ps := [("_law_value" : Str), ("_law_most" : Str)]) F (He.glo_ok X G (c.fact 33 (f := .glo "_law_is_small") rfl)) rfl ⟨rfl, rfl, rfl, by decide +kernel, rfl, by decide +kernel, by decide +kernel⟩ (by decide +kernel) ?_ ?_
  · exact fun kV doc pm an cdv ct us hl => match us, hl with | [_, _], _ => rfl
  · intro s hs e kV doc pm an cdv ct
    simp only [Gt, List.mem_cons, List.not_mem_nil, or_false] at hs
    rcases hs with rfl | rfl
    · exact absurd e (by decide)
    · exact absurd e (by decide)
theorem p_18 (X : K.In h) (G : h.Ns mainGlobals mg) (c : He.SaysD fa fn K) : FnsAt Gt P w K mg base fns 18 "_law_look" := by
  obtain ⟨fd, F⟩ := c.def_ 20 (d := dd "_law_look" (top 37)) rfl
  refine fns_at (N := [("_law_letters" : Str), ("_law_value" : Str), ("_law_deep_here" : Str), ("_law_kind" : Str), ("_law_rest" : Str), ("_law_sign" : Str), ("_law_one" : Str)]) (ps := [("_law_letters" : Str), ("_law_value" : Str), ("_law_deep_here" : Str)]) F (He.glo_ok X G (c.fact 34 (f := .glo "_law_look") rfl)) rfl ⟨rfl, rfl, rfl, by decide +kernel, rfl, by decide +kernel, by decide +kernel⟩ (by decide +kernel) ?_ ?_
  · exact fun kV doc pm an cdv ct us hl => match us, hl with | [_, _, _], _ => rfl
  · intro s hs e kV doc pm an cdv ct
    simp only [Gt, List.mem_cons, List.not_mem_nil, or_false] at hs
    rcases hs with rfl | rfl
    · exact absurd e (by decide)
    · exact absurd e (by decide)
theorem p_19 (X : K.In h) (G : h.Ns mainGlobals mg) (c : He.SaysD fa fn K) : FnsAt Gt P w K mg base fns 19 "_law_is_pattern" := by
  obtain ⟨fd, F⟩ := c.def_ 21 (d := dd "_law_is_pattern" (top 38)) rfl
  refine fns_at (N := [("_law_letters" : Str), ("_law_value" : Str)]) (ps := [("_law_letters" : Str), ("_law_value" : Str)]) F (He.glo_ok X G (c.fact 35 (f := .glo "_law_is_pattern") rfl)) rfl ⟨rfl, rfl, rfl, by decide +kernel, rfl, by decide +kernel, by decide +kernel⟩ (by decide +kernel) ?_ ?_
  · exact fun kV doc pm an cdv ct us hl => match us, hl with | [_, _], _ => rfl
  · intro s hs e kV doc pm an cdv ct
    simp only [Gt, List.mem_cons, List.not_mem_nil, or_false] at hs
    rcases hs with rfl | rfl
    · exact absurd e (by decide)
    · exact absurd e (by decide)
theorem p_20 (X : K.In h) (G : h.Ns mainGlobals mg) (c : He.SaysD fa fn K) : FnsAt Gt P w K mg base fns 20 "_law_bent" := by
  obtain ⟨fd, F⟩ := c.def_ 22 (d := dd "_law_bent" (top 39)) rfl
  refine fns_at (N := [("_law_pot_here" : Str), ("_law_pattern_here" : Str), ("_law_odd" : Str), ("_law_at" : Str)]) (ps := [("_law_pot_here" : Str), ("_law_pattern_here" : Str), ("_law_odd" : Str)]) F (He.glo_ok X G (c.fact 36 (f := .glo "_law_bent") rfl)) rfl ⟨rfl, rfl, rfl, by decide +kernel, rfl, by decide +kernel, by decide +kernel⟩ (by decide +kernel) ?_ ?_
  · exact fun kV doc pm an cdv ct us hl => match us, hl with | [_, _, _], _ => rfl
  · intro s hs e kV doc pm an cdv ct
    simp only [Gt, List.mem_cons, List.not_mem_nil, or_false] at hs
    rcases hs with rfl | rfl
    · exact absurd e (by decide)
    · exact absurd e (by decide)
theorem p_21 (X : K.In h) (G : h.Ns mainGlobals mg) (c : He.SaysD fa fn K) : FnsAt Gt P w K mg base fns 21 "_law_wide" := by
  obtain ⟨fd, F⟩ := c.def_ 23 (d := dd "_law_wide" (top 40)) rfl
  refine fns_at (N := [("_law_many" : Str), ("_law_rows" : Str), ("_law_late" : Str), ("_law_at" : Str)]) (ps := [("_law_many" : Str)]) F (He.glo_ok X G (c.fact 37 (f := .glo "_law_wide") rfl)) rfl ⟨rfl, rfl, rfl, by decide +kernel, rfl, by decide +kernel, by decide +kernel⟩ (by decide +kernel) ?_ ?_
  · exact fun kV doc pm an cdv ct us hl => match us, hl with | [_], _ => rfl
  · intro s hs e kV doc pm an cdv ct
    simp only [Gt, List.mem_cons, List.not_mem_nil, or_false] at hs
    rcases hs with rfl | rfl
    · exact absurd e (by decide)
    · exact absurd e (by decide)
theorem p_22 (X : K.In h) (G : h.Ns mainGlobals mg) (c : He.SaysD fa fn K) : FnsAt Gt P w K mg base fns 22 "_law_deep" := by
  obtain ⟨fd, F⟩ := c.def_ 24 (d := dd "_law_deep" (top 41)) rfl
  refine fns_at (N := [("_law_many" : Str), ("_law_inner" : Str), ("_law_found" : Str), ("_law_turn" : Str)]) (ps := [("_law_many" : Str), ("_law_inner" : Str)]) F (He.glo_ok X G (c.fact 38 (f := .glo "_law_deep") rfl)) rfl ⟨rfl, rfl, rfl, by decide +kernel, rfl, by decide +kernel, by decide +kernel⟩ (by decide +kernel) ?_ ?_
  · exact fun kV doc pm an cdv ct us hl => match us, hl with | [_, _], _ => rfl
  · intro s hs e kV doc pm an cdv ct
    simp only [Gt, List.mem_cons, List.not_mem_nil, or_false] at hs
    rcases hs with rfl | rfl
    · exact absurd e (by decide)
    · exact absurd e (by decide)
theorem p_23 (X : K.In h) (G : h.Ns mainGlobals mg) (c : He.SaysD fa fn K) : FnsAt Gt P w K mg base fns 23 "_law_values" := by
  obtain ⟨fd, F⟩ := c.def_ 25 (d := dd "_law_values" (top 42)) rfl
  refine fns_at (N := [("_law_pot_here" : Str), ("_law_letters" : Str), ("_law_pattern_here" : Str), ("_law_odds" : Str), ("_law_found" : Str), ("_law_many" : Str), ("_law_odd" : Str)]) (ps := [("_law_pot_here" : Str), ("_law_letters" : Str), ("_law_pattern_here" : Str)]) F (He.glo_ok X G (c.fact 39 (f := .glo "_law_values") rfl)) rfl ⟨rfl, rfl, rfl, by decide +kernel, rfl, by decide +kernel, by decide +kernel⟩ (by decide +kernel) ?_ ?_
  · exact fun kV doc pm an cdv ct us hl => match us, hl with | [_, _, _], _ => rfl
  · intro s hs e kV doc pm an cdv ct
    simp only [Gt, List.mem_cons, List.not_mem_nil, or_false] at hs
    rcases hs with rfl | rfl
    · exact absurd e (by decide)
    · exact absurd e (by decide)
theorem p_24 (X : K.In h) (G : h.Ns mainGlobals mg) (c : He.SaysD fa fn K) : FnsAt Gt P w K mg base fns 24 "_law_right" := by
  obtain ⟨fd, F⟩ := c.def_ 26 (d := dd "_law_right" (top 43)) rfl
  refine fns_at (N := [("_law_pot_here" : Str), ("_law_letters" : Str), ("_law_pattern_here" : Str), ("_law_at" : Str), ("_law_value" : Str), ("_law_stay" : Str), ("_law_due" : Str), ("_law_told" : Str)]) (ps := [("_law_pot_here" : Str)]) F (He.glo_ok X G (c.fact 40 (f := .glo "_law_right") rfl)) rfl ⟨rfl, rfl, rfl, by decide +kernel, rfl, by decide +kernel, by decide +kernel⟩ (by decide +kernel) ?_ ?_
  · exact fun kV doc pm an cdv ct us hl => match us, hl with | [_], _ => rfl
  · intro s hs e kV doc pm an cdv ct
    simp only [Gt, List.mem_cons, List.not_mem_nil, or_false] at hs
    rcases hs with rfl | rfl
    · exact absurd e (by decide)
    · exact absurd e (by decide)
theorem p_25 (X : K.In h) (G : h.Ns mainGlobals mg) (c : He.SaysD fa fn K) : FnsAt Gt P w K mg base fns 25 "law" := by
  obtain ⟨fd, F⟩ := c.def_ 27 (d := dd "law" (top 44)) rfl
  refine fns_at (N := [("_law_script" : Str)]) (ps := [("_law_script" : Str)]) F (He.glo_ok X G (c.fact 41 (f := .glo "law") rfl)) rfl ⟨rfl, rfl, rfl, by decide +kernel, rfl, by decide +kernel, by decide +kernel⟩ (by decide +kernel) ?_ ?_
  · exact fun kV doc pm an cdv ct us hl => match us, hl with | [_], _ => rfl
  · intro s hs e kV doc pm an cdv ct
    simp only [Gt, List.mem_cons, List.not_mem_nil, or_false] at hs
    rcases hs with rfl | rfl
    · exact absurd e (by decide)
    · exact absurd e (by decide)
theorem prog (X : K.In h) (G : h.Ns mainGlobals mg) (c : He.SaysD fa fn K) : Prog Gt P w K mg base fns := by
  refine ⟨?_, ?_, ?_⟩
  · intro x hx
    simp only [Gt, List.mem_cons, List.not_mem_nil, or_false] at hx
    rcases hx with rfl | rfl | rfl | rfl | rfl | rfl | rfl | rfl | rfl | rfl | rfl | rfl | rfl | rfl | rfl | rfl | rfl
    · exact He.free_ok X G (c.fact 42 (f := .free "isinstance") rfl)
    · exact He.free_ok X G (c.fact 43 (f := .free "int") rfl)
    · exact He.free_ok X G (c.fact 44 (f := .free "bool") rfl)
    · exact He.free_ok X G (c.fact 45 (f := .free "all") rfl)
    · exact He.free_ok X G (c.fact 46 (f := .free "str") rfl)
    · exact He.free_ok X G (c.fact 47 (f := .free "len") rfl)
    · exact He.free_ok X G (c.fact 48 (f := .free "sum") rfl)
    · exact He.free_ok X G (c.fact 49 (f := .free "tuple") rfl)
    · exact He.free_ok X G (c.fact 50 (f := .free "sorted") rfl)
    · exact He.free_ok X G (c.fact 51 (f := .free "set") rfl)
    · exact He.free_ok X G (c.fact 52 (f := .free "abs") rfl)
    · exact He.free_ok X G (c.fact 53 (f := .free "max") rfl)
    · exact He.free_ok X G (c.fact 54 (f := .free "divmod") rfl)
    · exact He.free_ok X G (c.fact 55 (f := .free "range") rfl)
    · exact He.free_ok X G (c.fact 56 (f := .free "list") rfl)
    · exact He.free_ok X G (c.fact 57 (f := .free "enumerate") rfl)
    · exact He.free_ok X G (c.fact 58 (f := .free "repr") rfl)
  · intro i x d hi
    match i, hi with
    | 0, hi =>
      have e : some (("SIGNS" : Str), D.str [97, 98, 99]) = some (x, d) := hi
      cases e
      obtain ⟨t, e⟩ := He.str_ok X G (c.fact 7 (f := .str "SIGNS" "abc") rfl)
      exact ⟨_, .str "abc", e, by decide +kernel, t, rfl⟩
    | 1, hi =>
      have e : some (("MOST_LETTERS" : Str), D.int 3) = some (x, d) := hi
      cases e
      obtain ⟨t, e⟩ := He.int_ok X G (c.fact 8 (f := .int "MOST_LETTERS" 3) rfl)
      exact ⟨_, .int 3, e, rfl, t, rfl⟩
    | 2, hi =>
      have e : some (("MOST_SIGNS" : Str), D.int 60) = some (x, d) := hi
      cases e
      obtain ⟨t, e⟩ := He.int_ok X G (c.fact 9 (f := .int "MOST_SIGNS" 60) rfl)
      exact ⟨_, .int 60, e, rfl, t, rfl⟩
    | 3, hi =>
      have e : some (("MOST_PARTS" : Str), D.int 30) = some (x, d) := hi
      cases e
      obtain ⟨t, e⟩ := He.int_ok X G (c.fact 12 (f := .int "MOST_PARTS" 30) rfl)
      exact ⟨_, .int 30, e, rfl, t, rfl⟩
    | 4, hi =>
      have e : some (("MOST_DEEP" : Str), D.int 9) = some (x, d) := hi
      cases e
      obtain ⟨t, e⟩ := He.int_ok X G (c.fact 13 (f := .int "MOST_DEEP" 9) rfl)
      exact ⟨_, .int 9, e, rfl, t, rfl⟩
    | 5, hi =>
      have e : some (("MOST_NAME" : Str), D.int 2) = some (x, d) := hi
      cases e
      obtain ⟨t, e⟩ := He.int_ok X G (c.fact 14 (f := .int "MOST_NAME" 2) rfl)
      exact ⟨_, .int 2, e, rfl, t, rfl⟩
    | 6, hi =>
      have e : some (("WORD" : Str), D.str [119, 111, 114, 100]) = some (x, d) := hi
      cases e
      obtain ⟨t, e⟩ := He.str_ok X G (c.fact 15 (f := .str "WORD" "word") rfl)
      exact ⟨_, .str "word", e, by decide +kernel, t, rfl⟩
    | 7, hi =>
      have e : some (("NAME" : Str), D.str [110, 97, 109, 101]) = some (x, d) := hi
      cases e
      obtain ⟨t, e⟩ := He.str_ok X G (c.fact 16 (f := .str "NAME" "name") rfl)
      exact ⟨_, .str "name", e, by decide +kernel, t, rfl⟩
    | 8, hi =>
      have e : some (("BEHIND" : Str), D.str [98, 101, 104, 105, 110, 100]) = some (x, d) := hi
      cases e
      obtain ⟨t, e⟩ := He.str_ok X G (c.fact 17 (f := .str "BEHIND" "behind") rfl)
      exact ⟨_, .str "behind", e, by decide +kernel, t, rfl⟩
    | 9, hi =>
      have e : some (("EITHER" : Str), D.str [101, 105, 116, 104, 101, 114]) = some (x, d) := hi
      cases e
      obtain ⟨t, e⟩ := He.str_ok X G (c.fact 18 (f := .str "EITHER" "either") rfl)
      exact ⟨_, .str "either", e, by decide +kernel, t, rfl⟩
    | 10, hi =>
      have e : some (("ROUND" : Str), D.str [114, 111, 117, 110, 100]) = some (x, d) := hi
      cases e
      obtain ⟨t, e⟩ := He.str_ok X G (c.fact 19 (f := .str "ROUND" "round") rfl)
      exact ⟨_, .str "round", e, by decide +kernel, t, rfl⟩
    | _ + 11, hi => simp [Gt] at hi
  · intro f nm hf
    match f, hf with
    | 0, hf =>
      have e : some ("is_integer" : Str) = some nm := hf
      cases e
      exact p_0 X G c
    | 1, hf =>
      have e : some ("is_count" : Str) = some nm := hf
      cases e
      exact p_1 X G c
    | 2, hf =>
      have e : some ("want_letters" : Str) = some nm := hf
      cases e
      exact p_2 X G c
    | 3, hf =>
      have e : some ("is_word_of" : Str) = some nm := hf
      cases e
      exact p_3 X G c
    | 4, hf =>
      have e : some ("is_name_number" : Str) = some nm := hf
      cases e
      exact p_4 X G c
    | 5, hf =>
      have e : some ("many_parts" : Str) = some nm := hf
      cases e
      exact p_5 X G c
    | 6, hf =>
      have e : some ("is_pattern_of" : Str) = some nm := hf
      cases e
      exact p_6 X G c
    | 7, hf =>
      have e : some ("want_pattern" : Str) = some nm := hf
      cases e
      exact p_7 X G c
    | 8, hf =>
      have e : some ("names_in" : Str) = some nm := hf
      cases e
      exact p_8 X G c
    | 9, hf =>
      have e : some ("is_pattern" : Str) = some nm := hf
      cases e
      exact p_9 X G c
    | 10, hf =>
      have e : some ("names_of" : Str) = some nm := hf
      cases e
      exact p_10 X G c
    | 11, hf =>
      have e : some ("_law_pot" : Str) = some nm := hf
      cases e
      exact p_11 X G c
    | 12, hf =>
      have e : some ("_law_draw" : Str) = some nm := hf
      cases e
      exact p_12 X G c
    | 13, hf =>
      have e : some ("_law_word" : Str) = some nm := hf
      cases e
      exact p_13 X G c
    | 14, hf =>
      have e : some ("_law_leaf" : Str) = some nm := hf
      cases e
      exact p_14 X G c
    | 15, hf =>
      have e : some ("_law_pattern" : Str) = some nm := hf
      cases e
      exact p_15 X G c
    | 16, hf =>
      have e : some ("_law_names" : Str) = some nm := hf
      cases e
      exact p_16 X G c
    | 17, hf =>
      have e : some ("_law_is_small" : Str) = some nm := hf
      cases e
      exact p_17 X G c
    | 18, hf =>
      have e : some ("_law_look" : Str) = some nm := hf
      cases e
      exact p_18 X G c
    | 19, hf =>
      have e : some ("_law_is_pattern" : Str) = some nm := hf
      cases e
      exact p_19 X G c
    | 20, hf =>
      have e : some ("_law_bent" : Str) = some nm := hf
      cases e
      exact p_20 X G c
    | 21, hf =>
      have e : some ("_law_wide" : Str) = some nm := hf
      cases e
      exact p_21 X G c
    | 22, hf =>
      have e : some ("_law_deep" : Str) = some nm := hf
      cases e
      exact p_22 X G c
    | 23, hf =>
      have e : some ("_law_values" : Str) = some nm := hf
      cases e
      exact p_23 X G c
    | 24, hf =>
      have e : some ("_law_right" : Str) = some nm := hf
      cases e
      exact p_24 X G c
    | 25, hf =>
      have e : some ("law" : Str) = some nm := hf
      cases e
      exact p_25 X G c
    | _ + 26, hf => simp [Gt] at hf
end
end La
theorem La.law_true (ns : List Int) (h : ns.length ≤ 63) : Py.sig Py.thePar La.fns 40 25 [.v (.scr ns)] = some (.ret (.v (.bl true)) []) := La.e_law Py.thePar Py.sm_shown _ ns h
open PySem PySem.W PySem.Calls PyProof.Rows
theorem PySem.Challenge.cw_widefills_k41_any_value_as_pattern_holds : PySem.Challenge.rw_widefills_k41_any_value_as_pattern.Holds := by
  w_on; o_law
  refine HandSHeadRun.head_any (r := OpenLaw.row PySem.Challenge.rw_widefills_k41_any_value_as_pattern) (q := view (OpenLaw.row PySem.Challenge.rw_widefills_k41_any_value_as_pattern).prog [44]) (H := La.hk) (ob := La.ob) (M := 2000) (loose := La.names) (d := HandSHeadRun.topDef (OpenLaw.row PySem.Challenge.rw_widefills_k41_any_value_as_pattern).prog 44) (kwd := []) La.ob_eq
    (by kernel_rfl) (fun s => by kernel_rfl) La.run (by kernel_rfl) (by kernel_rfl) (by kernel_rfl) (by rfl) (by first | assumption | decide +kernel) (by decide +kernel) ⟨rfl, rfl, rfl, rfl, rfl, by decide +kernel⟩ ?hw ?hc
  case hw => w_witness2
  case hc =>
    refine Py.walk_g (l := PySem.Challenge.rw_widefills_k41_any_value_as_pattern) (n := 63) (k := 40) (x := "_law_script") rfl (by decide) (by kernel_rfl) ⟨rfl, by decide, by decide⟩ ?F
    intro w mg fa h Y G hmg0
    obtain ⟨K, KX, c⟩ := Y
    have hmg : mg ("law" : PySem.Str) = some (.ref fa) := by
      have e : (HandSHeadRun.topDef (OpenLaw.row PySem.Challenge.rw_widefills_k41_any_value_as_pattern).prog 44).name = ("law" : PySem.Str) := by kernel_rfl
      rw [← e]
      exact hmg0
    obtain ⟨fd, F⟩ := c.def_ 27 (d := La.dd "law" (La.top 44)) rfl
    have z := hmg.symm.trans (He.glo_ok KX G (c.fact 41 (f := .glo "law") rfl))
    cases z
    have b := L2.FunD.bindsA (ps := [("_law_script" : PySem.Str)]) F fun _ _ _ _ _ _ us hl => match us, hl with | [_], _ => rfl
    refine ⟨K, fd, Py.spOf K (fun _ _ _ _ _ => False) (Py.sig Py.thePar La.fns 40) 25, KX, fun s v => b s [v] rfl, fun H a ns hl hS => Py.law_sp hS (La.law_true ns hl), fun base hb hn => ?_⟩
    exact Py.fn_by (n := 39) (N := [("_law_script" : PySem.Str)]) F rfl ⟨rfl, rfl, rfl, by decide +kernel, rfl, by decide +kernel, by decide +kernel⟩ (by decide +kernel) ((La.prog (P := (PySem.Challenge.rw_widefills_k41_any_value_as_pattern).prog) (w := w) (base := base) KX G c).ok _ 39)
