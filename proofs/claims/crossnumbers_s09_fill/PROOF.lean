import PyProof.Rows.All
import Wide.All
import OpenK.AllK
import Wide.FinOn
import Open.SpecLaws
import KE.OsGo
import KE.DataEq
import HandS.ForSpec
import HandS.TryMany
import HandS.TupAny
import HandS.TupMul
import HandS.IsInst
import HandS.Dict
import HandS.Iter
import HandS.Zip
import HandS.Comp
import HandS.ExcInit
import HandS.SuiteRaise
import HandS.RaiseFrom
import HandS.ExcInitHot
import HandS.HotCalls
import HandS.ExcField
import HandS.Defaults
import HandS.HeadEnd
import HandS.HeadHook1
import HandS.HeadHook2
import HandS.HeadHook3
import HandS.HeadHook4
import HandS.Spec
import HandS.Head4
import KE.KStateDown
import HandS.More
import HandS.Words
import HandS.WordsExc
import HandS.Head0
import HandS.Head1
import HandS.Head2
import HandS.Head3
import PySem.Challenge.RW_crossnumbers_s09_fill
set_option Elab.async false
set_option linter.all false
set_option maxRecDepth 100000
set_option maxHeartbeats 8000000
/-! # Cn: a small language of values without a heap, in which the program's defs are told again: data, statements, what they compute -/
namespace Cn

/-- a key of a dict -/
inductive Ky where
  | i (n : Int)
  | s (cs : List Nat)
  deriving DecidableEq

/-- data: what never changes. A text of ours (str) by its signs' codes; an instance by its class's place and its fields' values in order -/
inductive D where
  | non
  | bl (b : Bool)
  | int (i : Int)
  | str (cs : List Nat)
  | tup (xs : List D)
  | lst (xs : List D)
  | ins (c : Nat) (fs : List D)
  | dK (ks : List Ky) (vs : List D)
  | dT (ks : List (List Int)) (vs : List D)

/-- a value: data; a handle of an object that may change, of an inner object of it; a tuple that the module's top wrote; a closure (which lambda, what it has captured) -/
inductive W where
  | d (x : D)
  | h (n : Nat)
  | hi (n f : Nat)
  | kt (x : D)
  | clo (l : Nat) (cap : List D)

/-- what lies in an object: data, an inner object of its own -/
inductive U where
  | d (x : D)
  | i (f : Nat)

/-- an inner object: it holds data alone -/
inductive Fo where
  | lst (xs : List D)
  | dK (ks : List Ky) (vs : List D)
  | dT (ks : List (List Int)) (vs : List D)

/-- an object that may change: a list or an instance of such, or a plain one -/
inductive Ob where
  | lst (us : List U)
  | ins (c : Nat) (us : List U)
  | o (o : Fo)

/-- an object with its inner ones (none: gone) -/
structure Gr where
  root : Ob
  inn : List (Option Fo)

abbrev Mu := List (Option Gr)

/-- an exception: its class's place, its fields -/
structure Xn where
  cls : Nat
  fs : List Int

inductive Res (α : Type) where
  | ok (a : α) (m : Mu)
  | exc (x : Xn) (m : Mu)
  | stuck

/-- the longest list or tuple -/
def line : Nat := 16777216

def Res.bind {α β : Type} (r : Res α) (f : α → Mu → Res β) : Res β := match r with
  | .ok a m => f a m
  | .exc x m => .exc x m
  | .stuck => .stuck

@[simp] theorem Res.bind_ok {α β : Type} (a : α) (m : Mu) (f : α → Mu → Res β) : (Res.ok a m).bind f = f a m := rfl
@[simp] theorem Res.bind_exc {α β : Type} (x : Xn) (m : Mu) (f : α → Mu → Res β) : (Res.exc x m).bind f = .exc x m := rfl
@[simp] theorem Res.bind_stuck {α β : Type} (f : α → Mu → Res β) : (Res.stuck : Res α).bind f = .stuck := rfl

/-- a condition that must hold -/
def guardR {α : Type} (c : Bool) (r : Res α) : Res α := if c then r else .stuck
@[simp] theorem guardR_true {α : Type} (r : Res α) : guardR true r = r := rfl
theorem guardR_of {α : Type} {c : Bool} (h : c = true) (r : Res α) : guardR c r = r := by rw [h]; rfl

def optR {α : Type} (o : Option α) (m : Mu) : Res α := match o with
  | some a => .ok a m
  | none => .stuck
@[simp] theorem optR_some {α : Type} (a : α) (m : Mu) : optR (some a) m = .ok a m := rfl

/-! ### data -/
mutual
/-- no instance, no dict -/
def D.plain : D → Bool
  | .non => true
  | .bl _ => true
  | .int _ => true
  | .str _ => true
  | .tup xs => D.plains xs
  | .lst xs => D.plains xs
  | .ins _ _ => false
  | .dK _ _ => false
  | .dT _ _ => false
def D.plains : List D → Bool
  | [] => true
  | x :: r => D.plain x && D.plains r
end
mutual
def D.depth : D → Nat
  | .tup xs => D.depths xs + 1
  | .lst xs => D.depths xs + 1
  | .non => 0
  | .bl _ => 0
  | .int _ => 0
  | .str _ => 0
  | .ins _ _ => 0
  | .dK _ _ => 0
  | .dT _ _ => 0
def D.depths : List D → Nat
  | [] => 0
  | x :: r => max (D.depth x) (D.depths r)
end
def bI (b : Bool) : Int := if b then 1 else 0
mutual
/-- == -/
def D.eqv : D → D → Bool
  | .non, b => (match b with | .non => true | _ => false)
  | .bl a, b => (match b with | .bl c => a == c | .int j => bI a == j | _ => false)
  | .int i, b => (match b with | .bl c => i == bI c | .int j => i == j | _ => false)
  | .str x, b => (match b with | .str y => x == y | _ => false)
  | .tup xs, b => (match b with | .tup ys => D.eqvs xs ys | _ => false)
  | .lst xs, b => (match b with | .lst ys => D.eqvs xs ys | _ => false)
  | .ins _ _, _ => false
  | .dK _ _, _ => false
  | .dT _ _, _ => false
def D.eqvs : List D → List D → Bool
  | [], ys => ys.isEmpty
  | x :: r, ys => (match ys with | [] => false | y :: s => D.eqv x y && D.eqvs r s)
end

/-- the place that an index means -/
def ixZ (n : Nat) (i : Int) : Option Nat := if 0 ≤ i then (if i < n then some i.toNat else none) else if -(n : Int) ≤ i then some (i + n).toNat else none
def atZ {α : Type} (xs : List α) (i : Int) : Option α := (ixZ xs.length i).bind fun j => xs[j]?
/-- a slice's end -/
def clipZ (n d : Nat) : Option Int → Nat
  | none => d
  | some i => if i < 0 then (i + n).toNat else min i.toNat n
def cutZ {α : Type} (xs : List α) (lo hi : Option Int) : List α := (xs.drop (clipZ xs.length 0 lo)).take (clipZ xs.length xs.length hi - clipZ xs.length 0 lo)

def allD : List W → Option (List D)
  | [] => some []
  | .d x :: r => (match allD r with | some xs => some (x :: xs) | none => none)
  | _ :: _ => none
def allU : List U → Option (List D)
  | [] => some []
  | .d x :: r => (match allU r with | some xs => some (x :: xs) | none => none)
  | _ :: _ => none
/-- an item of a module's tuple as a value -/
def toK : D → W
  | .tup xs => .kt (.tup xs)
  | x => .d x
/-- no tuple: a module's tuple of such -/
def D.atom : D → Bool
  | .non => true
  | .bl _ => true
  | .int _ => true
  | .str _ => true
  | _ => false
def toU (n : Nat) : U → W
  | .d x => .d x
  | .i f => .hi n f
/-- a list of data that may change -/
def Ob.lstD : Ob → Option (List D)
  | .lst us => allU us
  | .o (.lst xs) => some xs
  | _ => none
def grAt (m : Mu) (n : Nat) : Option Gr := match m[n]? with
  | some (some g) => some g
  | _ => none
def inAt (m : Mu) (n f : Nat) : Option Fo := match grAt m n with
  | some g => (match g.inn[f]? with | some (some o) => some o | _ => none)
  | none => none
def rootAt (m : Mu) (n : Nat) : Option Ob := match grAt m n with
  | some g => some g.root
  | none => none
def setRoot (m : Mu) (n : Nat) (r : Ob) : Mu := match grAt m n with
  | some g => m.set n (some { g with root := r })
  | none => m
def setIn (m : Mu) (n f : Nat) (o : Option Fo) : Mu := match grAt m n with
  | some g => m.set n (some { g with inn := g.inn.set f o })
  | none => m
/-- the plain object behind a handle -/
def foAt (m : Mu) : W → Option Fo
  | .h n => (match rootAt m n with | some (.o o) => some o | _ => none)
  | .hi n f => inAt m n f
  | _ => none
def setFo (m : Mu) (o : Fo) : W → Mu
  | .h n => setRoot m n (.o o)
  | .hi n f => setIn m n f (some o)
  | _ => m
/-- what is to be read where a value is -/
def rd (m : Mu) : W → Option D
  | .d x => some x
  | .kt x => some x
  | .h n => (match rootAt m n with
    | some r => (match r.lstD with | some xs => some (.lst xs) | none => none)
    | none => none)
  | .hi n f => (match inAt m n f with
    | some (.lst xs) => some (.lst xs)
    | _ => none)
  | .clo _ _ => none
/-- its items -/
def items (m : Mu) : W → Option (List W)
  | .kt x => (match x with
    | .tup xs => some (xs.map toK)
    | _ => none)
  | .d (.str cs) => some (cs.map fun c => .d (.str [c]))
  | .d (.tup xs) => some (xs.map .d)
  | w => (match rd m w with
    | some (.lst xs) => some (xs.map .d)
    | _ => none)
/-- the items of what stays as it is -/
def itemsD : W → Option (List W)
  | .kt x => (match x with
    | .tup xs => some (xs.map toK)
    | _ => none)
  | .d (.str cs) => some (cs.map fun c => .d (.str [c]))
  | .d (.tup xs) => some (xs.map .d)
  | .d (.lst xs) => some (xs.map .d)
  | _ => none
def Fo.data : Fo → D
  | .lst xs => .lst xs
  | .dK ks vs => .dK ks vs
  | .dT ks vs => .dT ks vs
/-- what lies in an object, as data -/
def dataU (inn : List (Option Fo)) : List U → Option (List D)
  | [] => some []
  | .d x :: r => (match dataU inn r with | some xs => some (x :: xs) | none => none)
  | .i f :: r => (match inn[f]? with
    | some (some o) => (match dataU inn r with | some xs => some (o.data :: xs) | none => none)
    | _ => none)
def Gr.data (g : Gr) : Option D := match g.root with
  | .lst us => (match dataU g.inn us with | some xs => some (.lst xs) | none => none)
  | .ins c us => (match dataU g.inn us with | some xs => some (.ins c xs) | none => none)
  | .o o => some o.data
/-- an object becomes data -/
def fzR (m : Mu) : W → Res D
  | .d x => .ok x m
  | .h n => (match grAt m n with
    | some g => (match g.data with | some x => .ok x (m.set n none) | none => .stuck)
    | none => .stuck)
  | .hi n f => (match inAt m n f with
    | some o => .ok o.data (setIn m n f none)
    | none => .stuck)
  | _ => .stuck
/-- a new object -/
def newR (m : Mu) (o : Ob) : Res W := .ok (.h m.length) (m ++ [some ⟨o, []⟩])
/-- a list of one plain object, which goes over into it -/
def newU (m : Mu) (ws : List W) : Res W := match ws with
  | [.h k] => (match grAt m k with
    | some ⟨.o o, []⟩ => .ok (.h m.length) ((m.set k none) ++ [some ⟨.lst [.i 0], [some o]⟩])
    | _ => .stuck)
  | _ => .stuck
/-- what is stored into the object n: data; a plain object that goes over into it (it is the object n's own then) -/
def adopt (m : Mu) (n : Nat) : W → Res U
  | .d x => .ok (.d x) m
  | .h k => if k = n then .stuck else (match grAt m k, grAt m n with
    | some ⟨.o o, []⟩, some g => .ok (.i g.inn.length) ((m.set n (some { g with inn := g.inn ++ [some o] })).set k none)
    | _, _ => .stuck)
  | _ => .stuck

/-! ### dicts -/
def getA {κ α : Type} [DecidableEq κ] (k : κ) : List κ → List α → Option α
  | a :: r, v :: s => if a = k then some v else getA k r s
  | _, _ => none
/-- the values once more, v at k; none where k is new -/
def putA {κ α : Type} [DecidableEq κ] (k : κ) (v : α) : List κ → List α → Option (List α)
  | a :: r, x :: s => if a = k then some (v :: s) else (putA k v r s).map fun t => x :: t
  | _, _ => none
def toKy : D → Option Ky
  | .int i => some (.i i)
  | .str cs => some (.s cs)
  | _ => none
def intD : D → Option Int
  | .int i => some i
  | _ => none
def intDs : List D → Option (List Int)
  | [] => some []
  | x :: r => (match intD x, intDs r with | some i, some t => some (i :: t) | _, _ => none)
def toKt : D → Option (List Int)
  | .tup xs => intDs xs
  | _ => none

/-! ### the language -/
inductive Bo where
  | add | sub | mul | fdiv | mod
  deriving DecidableEq
inductive Co where
  | eq | ne | lt | le | gt | ge | isN | notN | in_ | nin
  deriving DecidableEq
/-- built-ins of one argument -/
inductive Bi where
  | len | ord | tuple | any | all | str | int | max
  deriving DecidableEq
inductive Ty where
  | list | tuple | int | str
  deriving DecidableEq
/-- what a loop's turn stores into -/
inductive Tg where
  | n (i : Nat)
  | t (is : List Nat)

mutual
inductive E where
  | var (i : Nat)
  | int (i : Int) | str (cs : List Nat) | bl (b : Bool) | non
  /-- a module's number, its tuple -/
  | gi (x : String) (i : Int) | gt (x : String) (t : D)
  | fz (e : E)
  | bin (o : Bo) (a b : E)
  /-- a list that is to change: [..] * n -/
  | mulM (a b : E)
  | cmp (o : Co) (a b : E)
  | ch (o p : Co) (a b c : E)
  | ch3 (o p q : Co) (a b c d : E)
  | and2 (a b : E) | or2 (a b : E) | not (a : E)
  | ife (c a b : E)
  | tup (es : Es) | lst (es : Es) | lstM (es : Es) | lstU (es : Es) | dicM (t : Bool)
  | ix (a b : E)
  /-- a[b:c], a[b:], a[:c] -/
  | sl (a b c : E) | slF (a b : E) | slT (a c : E)
  | at (c f : Nat) (a : E)
  | call (f : Nat) (es : Es) | meth (c f : Nat) (o : E) (es : Es) | new (c : Nat) (f : Nat) (es : Es)
  | b1 (b : Bi) (a : E) | dm (a b : E) | isi (t : Ty) (a : E)
  /-- list(x): data, an object; dict(pairs) -/
  | list (a : E) | listM (a : E) | dict (t : Bool) (a : E) | rngL (a b : E)
  | app (a b : E) | ext (a b : E) | pop (a : E) | get (a k x : E)
  | lc (g : Tg) (it c el : E)
  /-- a in D, D[a], D a module's dict of numbers -/
  | gin (x : String) (ps : List (Int × Int)) (a : E) | gget (x : String) (ps : List (Int × Int)) (a : E)
  | cv (i : Nat) (es : Es) | lam (l : Nat) (is : List Nat)
inductive Es where
  | nil
  | cons (e : E) (es : Es)
end

inductive It where
  | seq (e : E) | rng (a b : E) | enu (e : E) | zip (a b : E)

mutual
inductive S where
  | asg (i : Nat) (e : E) | asgT (is : List Nat) (e : E)
  /-- (no Python) slot i's object becomes data -/
  | fzs (i : Nat)
  | seta (c f : Nat) (o e : E) | setx (o k e : E) | auga (c f : Nat) (b : Bo) (o e : E) | augx (b : Bo) (o k e : E)
  | ex (e : E) | ret (e : E) | if_ (c : E) (a b : Ss) | wh (c : E) (b : Ss) | for_ (g : Tg) (it : It) (b : Ss)
  | rais (c : Nat) (f : Nat) (es : Es)
  /-- try: b; except C: x = None -/
  | tryN (b : Ss) (c : Nat) (i : Nat)
  /-- try: b; except C as n: return [n.f, ..] -/
  | tryF (b : Ss) (c i : Nat) (fs : List Nat)
  /-- try: b; except (C, ..): raise X(k) from None -/
  | tryR (b : Ss) (cs : List Nat) (x : Nat) (f : Nat) (k : Int)
  | base
inductive Ss where
  | nil
  | cons (s : S) (r : Ss)
end

/-! ### what it computes -/
abbrev Sl := List (Option W)
abbrev Calls := Nat → List W → Mu → Res W

def isInt : W → Option Int
  | .d (.int i) => some i
  | _ => none
def isBl : W → Option Bool
  | .d (.bl b) => some b
  | _ => none
def rInt (o : Option Int) (m : Mu) : Res W := match o with | some i => .ok (.d (.int i)) m | none => .stuck
def addR (m : Mu) : W → W → Res W
  | .d (.int i), .d (.int j) => .ok (.d (.int (i + j))) m
  | .d (.str x), .d (.str y) => guardR (decide (x.length + y.length ≤ line)) (.ok (.d (.str (x ++ y))) m)
  | .d (.tup x), .d (.tup y) => guardR (decide (x.length + y.length ≤ line)) (.ok (.d (.tup (x ++ y))) m)
  | .d (.tup x), .kt (.tup y) => guardR (decide (x.length + y.length ≤ line) && y.all D.atom && !x.isEmpty) (.ok (.d (.tup (x ++ y))) m)
  | .d (.lst x), .d (.lst y) => guardR (decide (x.length + y.length ≤ line)) (.ok (.d (.lst (x ++ y))) m)
  | _, _ => .stuck
def subR (m : Mu) : W → W → Res W
  | .d (.int i), .d (.int j) => .ok (.d (.int (i - j))) m
  | _, _ => .stuck
def mulR (m : Mu) : W → W → Res W
  | .d (.int i), .d (.int j) => guardR (decide (-(2 ^ 64) < i) && decide (i < 2 ^ 64)) (.ok (.d (.int (i * j))) m)
  | .d (.tup x), .d (.int j) => guardR (decide (0 ≤ j) && decide (j < 1000) && decide (x.length ≤ 1000)) (.ok (.d (.tup (List.replicate j.toNat x).flatten)) m)
  | .d (.lst x), .d (.int j) => guardR (decide (0 ≤ j) && decide (j < 1000) && decide (x.length ≤ 1000)) (.ok (.d (.lst (List.replicate j.toNat x).flatten)) m)
  | _, _ => .stuck
def fdivR (m : Mu) : W → W → Res W
  | .d (.int i), .d (.int j) => guardR (decide (0 < j) && decide (j < 1073741824)) (.ok (.d (.int (i / j))) m)
  | _, _ => .stuck
def modR (m : Mu) : W → W → Res W
  | .d (.int i), .d (.int j) => guardR (decide (0 < j)) (.ok (.d (.int (i % j))) m)
  | _, _ => .stuck
def binR (m : Mu) : Bo → W → W → Res W
  | .add => addR m
  | .sub => subR m
  | .mul => mulR m
  | .fdiv => fdivR m
  | .mod => modR m
def dmR (m : Mu) : W → W → Res W
  | .d (.int i), .d (.int j) => guardR (decide (0 < j) && decide (j < 1073741824)) (.ok (.d (.tup [.int (i / j), .int (i % j)])) m)
  | _, _ => .stuck
def mulMR (m : Mu) : W → W → Res W
  | .d (.lst x), .d (.int j) => guardR (decide (0 ≤ j) && decide (j < 1000) && decide (x.length ≤ 1000)) (newR m (.o (.lst (List.replicate j.toNat x).flatten)))
  | _, _ => .stuck
def ordR (m : Mu) (p : Int → Int → Bool) : W → W → Res Bool
  | .d (.int i), .d (.int j) => .ok (p i j) m
  | _, _ => .stuck
def eqR (m : Mu) (a b : W) : Res Bool := match rd m a, rd m b with
  | some x, some y => guardR (x.plain && y.plain && decide (min x.depth y.depth ≤ 64)) (.ok (x.eqv y) m)
  | _, _ => .stuck
/-- the dict that is to be read where a value is -/
def dicOf (m : Mu) : W → Option Fo
  | .d (.dK ks vs) => some (.dK ks vs)
  | .d (.dT ks vs) => some (.dT ks vs)
  | .d _ => none
  | w => foAt m w
/-- a in b: in a tuple or a list; in a dict -/
def inSeq (m : Mu) (a b : W) : Res Bool := match rd m a, rd m b with
  | some x, some (.tup ys) => guardR (x.plain && D.plains ys && decide (min (D.depths ys) x.depth ≤ 64)) (.ok (ys.any fun y => y.eqv x) m)
  | some x, some (.lst ys) => guardR (x.plain && D.plains ys && decide (min (D.depths ys) x.depth ≤ 64)) (.ok (ys.any fun y => y.eqv x) m)
  | _, _ => .stuck
def inR (m : Mu) (a b : W) : Res Bool := match dicOf m b with
  | some (.dK ks _) => (match a with | .d x => (match toKy x with | some k => .ok (ks.contains k) m | none => .stuck) | _ => .stuck)
  | some (.dT ks _) => (match a with | .d x => (match toKt x with | some k => .ok (ks.contains k) m | none => .stuck) | _ => .stuck)
  | _ => inSeq m a b
def notR : Res Bool → Res Bool
  | .ok b m => .ok (!b) m
  | .exc x m => .exc x m
  | .stuck => .stuck
def noneR (m : Mu) : W → Res Bool
  | .d .non => .ok true m
  | .d _ => .ok false m
  | _ => .stuck
def isNR (m : Mu) (a : W) : W → Res Bool
  | .d .non => noneR m a
  | _ => .stuck
def cmpR (m : Mu) : Co → W → W → Res Bool
  | .lt, a, b => ordR m (fun i j => decide (i < j)) a b
  | .le, a, b => ordR m (fun i j => decide (i ≤ j)) a b
  | .gt, a, b => ordR m (fun i j => decide (j < i)) a b
  | .ge, a, b => ordR m (fun i j => decide (j ≤ i)) a b
  | .eq, a, b => eqR m a b
  | .ne, a, b => notR (eqR m a b)
  | .in_, a, b => inR m a b
  | .nin, a, b => notR (inR m a b)
  | .isN, a, b => isNR m a b
  | .notN, a, b => notR (isNR m a b)
def blR (r : Res Bool) : Res W := r.bind fun b m => .ok (.d (.bl b)) m
def getK (m : Mu) (a : W) (k : Ky) : Res W := match dicOf m a with
  | some (.dK ks vs) => (match getA k ks vs with | some x => .ok (.d x) m | none => .stuck)
  | _ => .stuck
def ixR (m : Mu) (a b : W) : Res W := match b with
  | .d (.int i) => (match a with
    | .d (.tup xs) => (match atZ xs i with | some x => .ok (.d x) m | none => .stuck)
    | .d (.lst xs) => (match atZ xs i with | some x => .ok (.d x) m | none => .stuck)
    | .d (.str cs) => guardR (decide (cs.length ≤ line)) (match atZ cs i with | some c => .ok (.d (.str [c])) m | none => .stuck)
    | .kt (.tup xs) => (match atZ xs i with | some x => .ok (toK x) m | none => .stuck)
    | .h n => (match rootAt m n with
      | some (.lst us) => (match atZ us i with | some u => .ok (toU n u) m | none => .stuck)
      | some (.o (.lst xs)) => (match atZ xs i with | some x => .ok (.d x) m | none => .stuck)
      | _ => getK m a (.i i))
    | .hi n f => (match inAt m n f with
      | some (.lst xs) => (match atZ xs i with | some x => .ok (.d x) m | none => .stuck)
      | _ => getK m a (.i i))
    | a => getK m a (.i i))
  | .d (.str cs) => getK m a (.s cs)
  | _ => .stuck
def slR (m : Mu) (a : W) (lo hi : Option Int) : Res W := match rd m a with
  | some (.tup xs) => (match a with | .d _ => .ok (.d (.tup (cutZ xs lo hi))) m | _ => .stuck)
  | some (.lst xs) => .ok (.d (.lst (cutZ xs lo hi))) m
  | _ => .stuck
def atR (m : Mu) (c f : Nat) : W → Res W
  | .d (.ins k fs) => if k = c then (match fs[f]? with | some x => .ok (.d x) m | none => .stuck) else .stuck
  | .h n => (match rootAt m n with
    | some (.ins k us) => if k = c then (match us[f]? with | some u => .ok (toU n u) m | none => .stuck) else .stuck
    | _ => .stuck)
  | _ => .stuck
def clsR (m : Mu) : W → Option Nat
  | .d (.ins c _) => some c
  | .h n => (match rootAt m n with
    | some (.ins c _) => some c
    | _ => none)
  | _ => none
def blD : D → Option Bool
  | .bl b => some b
  | _ => none
def blDs : List D → Option (List Bool)
  | [] => some []
  | x :: r => (match blD x, blDs r with | some i, some t => some (i :: t) | _, _ => none)
def digits (n : Nat) : List Nat := (Nat.toDigits 10 n).map Char.toNat
def strI (i : Int) : List Nat := match i with
  | .ofNat n => digits n
  | .negSucc n => 45 :: digits (n + 1)
def b1R (m : Mu) : Bi → W → Res W
  | .len, a => (match items m a with | some ws => guardR (decide (ws.length ≤ line)) (.ok (.d (.int ws.length)) m) | none => .stuck)
  | .ord, .d (.str [c]) => .ok (.d (.int c)) m
  | .tuple, a => (match rd m a with
    | some (.lst xs) => .ok (.d (.tup xs)) m
    | _ => .stuck)
  | .any, a => (match rd m a with | some (.lst xs) => (match blDs xs with | some bs => .ok (.d (.bl (bs.any id))) m | none => .stuck) | _ => .stuck)
  | .all, a => (match rd m a with | some (.lst xs) => (match blDs xs with | some bs => .ok (.d (.bl (bs.all id))) m | none => .stuck) | _ => .stuck)
  | .max, a => (match rd m a with | some (.lst xs) => (match intDs xs with | some (i :: is) => .ok (.d (.int (is.foldl max i))) m | _ => .stuck) | _ => .stuck)
  | .str, .d (.int i) => guardR (decide (i.natAbs < 2 ^ 1919)) (.ok (.d (.str (strI i))) m)
  | .int, .d (.bl b) => .ok (.d (.int (bI b))) m
  | _, _ => .stuck
def isiR (m : Mu) : Ty → W → Res Bool
  | t, .d x => (match x with
    | .lst _ => .ok (t == .list) m
    | .tup _ => .ok (t == .tuple) m
    | .int _ => .ok (t == .int) m
    | .str _ => .ok (t == .str) m
    | _ => .stuck)
  | _, _ => .stuck
def listR (m : Mu) (a : W) : Res (List D) := match rd m a with
  | some (.tup xs) => .ok xs m
  | some (.lst xs) => .ok xs m
  | some (.dT ks _) => .ok (ks.map fun k => .tup (k.map .int)) m
  | _ => .stuck
def pairs : List D → Option (List D × List D)
  | [] => some ([], [])
  | .tup [k, v] :: r => (match pairs r with | some (ks, vs) => some (k :: ks, v :: vs) | none => none)
  | _ :: _ => none
def toKys : List D → Option (List Ky)
  | [] => some []
  | x :: r => (match toKy x, toKys r with | some i, some t => some (i :: t) | _, _ => none)
def toKts : List D → Option (List (List Int))
  | [] => some []
  | x :: r => (match toKt x, toKts r with | some i, some t => some (i :: t) | _, _ => none)
/-- the pairs put in, one after another -/
def mergeA {κ α : Type} [DecidableEq κ] : List κ → List α → List κ → List α → List κ × List α
  | ks, vs, k :: r, v :: s => (match putA k v ks vs with
    | some vs' => mergeA ks vs' r s
    | none => mergeA (ks ++ [k]) (vs ++ [v]) r s)
  | ks, vs, _, _ => (ks, vs)
def dictR (m : Mu) (t : Bool) (a : W) : Res W := match rd m a with
  | some (.lst ps) => (match pairs ps with
    | some (ks, vs) => guardR (decide (ks.length ≤ line)) (match t with
      | false => (match toKys ks with | some ks => newR m (.o (.dK (mergeA [] [] ks vs).1 (mergeA [] [] ks vs).2)) | none => .stuck)
      | true => (match toKts ks with | some ks => newR m (.o (.dT (mergeA [] [] ks vs).1 (mergeA [] [] ks vs).2)) | none => .stuck))
    | none => .stuck)
  | _ => .stuck
/-- a list that may change -/
def isLst (m : Mu) : W → Bool
  | .h n => (match rootAt m n with
    | some (.lst _) => true
    | some (.o (.lst _)) => true
    | _ => false)
  | .hi n f => (match inAt m n f with
    | some (.lst _) => true
    | _ => false)
  | _ => false
def isDic (m : Mu) (w : W) : Bool := match dicOf m w with
  | some (.dK _ _) => true
  | some (.dT _ _) => true
  | _ => false
/-- a plain list takes data -/
def appFo (m : Mu) (a : W) (x : W) : Res W := match foAt m a, x with
  | some (.lst xs), .d x => guardR (decide (xs.length < line)) (.ok (.d .non) (setFo m (.lst (xs ++ [x])) a))
  | _, _ => .stuck
def appR (m : Mu) (a b : W) : Res W := match a with
  | .h n => (match rootAt m n with
    | some (.lst us) => guardR (decide (us.length < line)) ((adopt m n b).bind fun u m => .ok (.d .non) (setRoot m n (.lst (us ++ [u]))))
    | _ => appFo m a b)
  | a => appFo m a b
def extR (m : Mu) (a b : W) : Res W := match foAt m a, b with
  | some (.lst xs), .d (.lst ys) => guardR (decide (xs.length + ys.length ≤ line)) (.ok (.d .non) (setFo m (.lst (xs ++ ys)) a))
  | _, _ => .stuck
def popR (m : Mu) (a : W) : Res W := match a with
  | .h n => (match rootAt m n with
    | some (.lst us) => (match us[us.length - 1]? with | some u => .ok (toU n u) (setRoot m n (.lst us.dropLast)) | none => .stuck)
    | some (.o (.lst xs)) => (match xs[xs.length - 1]? with | some x => .ok (.d x) (setRoot m n (.o (.lst xs.dropLast))) | none => .stuck)
    | _ => .stuck)
  | _ => .stuck
def getR (m : Mu) (a k x : W) : Res W := match k with
  | .d k => (match dicOf m a with
    | some (.dK ks vs) => (match toKy k with | some k => (match getA k ks vs with | some v => .ok (.d v) m | none => .ok x m) | none => .stuck)
    | some (.dT ks vs) => (match toKt k with | some k => (match getA k ks vs with | some v => .ok (.d v) m | none => .ok x m) | none => .stuck)
    | _ => .stuck)
  | _ => .stuck
def stKy (m : Mu) (o : W) (ks : List Ky) (vs : List D) (k : Ky) (x : D) : Res Unit :=
  guardR (decide (ks.length < line)) (match putA k x ks vs with
    | some us => .ok () (setFo m (.dK ks us) o)
    | none => .ok () (setFo m (.dK (ks ++ [k]) (vs ++ [x])) o))
def stKt (m : Mu) (o : W) (ks : List (List Int)) (vs : List D) (k : List Int) (x : D) : Res Unit :=
  guardR (decide (ks.length < line)) (match putA k x ks vs with
    | some us => .ok () (setFo m (.dT ks us) o)
    | none => .ok () (setFo m (.dT (ks ++ [k]) (vs ++ [x])) o))
/-- o[k] = w -/
def stx (m : Mu) (o k w : W) : Res Unit := match foAt m o, k, w with
  | some (.lst xs), .d (.int i), .d x => (match ixZ xs.length i with | some j => .ok () (setFo m (.lst (xs.set j x)) o) | none => .stuck)
  | some (.dK ks vs), .d k, .d x => (match toKy k with | some k => stKy m o ks vs k x | none => .stuck)
  | some (.dT ks vs), .d k, .d x => (match toKt k with | some k => stKt m o ks vs k x | none => .stuck)
  | _, _, _ => .stuck
/-- a field: it stands, or it is the next one -/
def sta (m : Mu) (c f : Nat) (o w : W) : Res Unit := match o with
  | .h n => (match rootAt m n with
    | some (.ins k us) => if k = c then
        (if f < us.length then (adopt m n w).bind fun u m => .ok () (setRoot m n (.ins c (us.set f u)))
        else if f = us.length then (adopt m n w).bind fun u m => .ok () (setRoot m n (.ins c (us ++ [u]))) else .stuck)
      else .stuck
    | _ => .stuck)
  | _ => .stuck
def bindG (σ : Sl) (w : W) : Tg → Option Sl
  | .n i => some (σ.set i (some w))
  | .t is => (match w with
    | .d (.tup xs) => if xs.length = is.length then some ((is.zip xs).foldl (fun σ p => σ.set p.1 (some (.d p.2))) σ) else none
    | .kt (.tup xs) => if xs.length = is.length then some ((is.zip xs).foldl (fun σ p => σ.set p.1 (some (toK p.2))) σ) else none
    | _ => none)
/-- the slots of a target -/
def tgs : Tg → List Nat
  | .n i => [i]
  | .t is => is
/-- slots forgotten -/
def wipeS (σ : Sl) : List Nat → Sl
  | [] => σ
  | v :: vs => (wipeS σ vs).set v none
/-- nothing raised -/
def Res.nox {α : Type} (r : Res α) : Res α := match r with
  | .ok a m => .ok a m
  | .exc _ _ => .stuck
  | .stuck => .stuck
@[simp] theorem Res.nox_ok {α : Type} (a : α) (m : Mu) : (Res.ok a m).nox = .ok a m := rfl
/-- a comprehension's turns: what is made -/
def lcGo (σ : Sl) (g : Tg) (c el : Sl → Mu → Res W) : List W → Mu → Res (List D)
  | [], m => .ok [] m
  | x :: r, m => (match bindG σ x g with
    | some σ1 => (c σ1 m).nox.bind fun b m1 => (match b with
      | .d (.bl true) => (el σ1 m1).nox.bind fun y m2 => (match y with
        | .d z => (lcGo σ g c el r m2).bind fun zs m3 => .ok (z :: zs) m3
        | _ => .stuck)
      | .d (.bl false) => lcGo σ g c el r m1
      | _ => .stuck)
    | none => .stuck)

def ginR (ps : List (Int × Int)) (m : Mu) : W → Res W
  | .d (.int i) => .ok (.d (.bl (ps.lookup i).isSome)) m
  | _ => .stuck
def ggetR (ps : List (Int × Int)) (m : Mu) : W → Res W
  | .d (.int i) => (match ps.lookup i with | some j => .ok (.d (.int j)) m | none => .stuck)
  | _ => .stuck
section
variable (C : Calls)
mutual
def evE (σ : Sl) (m : Mu) : E → Res W
  | .var i => (match σ[i]? with | some (some w) => .ok w m | _ => .stuck)
  | .int i => .ok (.d (.int i)) m
  | .str cs => .ok (.d (.str cs)) m
  | .bl b => .ok (.d (.bl b)) m
  | .non => .ok (.d .non) m
  | .gi _ i => .ok (.d (.int i)) m
  | .gt _ t => .ok (.kt t) m
  | .fz e => (evE σ m e).bind fun w m => (fzR m w).bind fun x m => .ok (.d x) m
  | .bin o a b => (evE σ m a).bind fun x m => (evE σ m b).bind fun y m => binR m o x y
  | .mulM a b => (evE σ m a).bind fun x m => (evE σ m b).bind fun y m => mulMR m x y
  | .cmp o a b => (evE σ m a).bind fun x m => (evE σ m b).bind fun y m => blR (cmpR m o x y)
  | .ch o p a b c => (evE σ m a).bind fun x m => (evE σ m b).bind fun y m => (cmpR m o x y).bind fun k m =>
      if k then (evE σ m c).bind fun z m => blR (cmpR m p y z) else .ok (.d (.bl false)) m
  | .ch3 o p q a b c d => (evE σ m a).bind fun x m => (evE σ m b).bind fun y m => (cmpR m o x y).bind fun k m =>
      if k then (evE σ m c).bind fun z m => (cmpR m p y z).bind fun k m => if k then (evE σ m d).bind fun u m => blR (cmpR m q z u) else .ok (.d (.bl false)) m
      else .ok (.d (.bl false)) m
  | .and2 a b => (evE σ m a).bind fun x m => (match x with | .d (.bl true) => evE σ m b | .d (.bl false) => .ok (.d (.bl false)) m | _ => .stuck)
  | .or2 a b => (evE σ m a).bind fun x m => (match x with | .d (.bl false) => evE σ m b | .d (.bl true) => .ok (.d (.bl true)) m | _ => .stuck)
  | .not a => (evE σ m a).bind fun x m => (match x with | .d (.bl b) => .ok (.d (.bl (!b))) m | _ => .stuck)
  | .ife c a b => (evE σ m c).bind fun x m => (match x with | .d (.bl true) => evE σ m a | .d (.bl false) => evE σ m b | _ => .stuck)
  | .tup es => (evEs σ m es).bind fun ws m => (match allD ws with | some xs => guardR (decide (xs.length ≤ line)) (.ok (.d (.tup xs)) m) | none => .stuck)
  | .lst es => (evEs σ m es).bind fun ws m => (match allD ws with | some xs => guardR (decide (xs.length ≤ line)) (.ok (.d (.lst xs)) m) | none => .stuck)
  | .lstM es => (evEs σ m es).bind fun ws m => (match allD ws with | some xs => guardR (decide (xs.length ≤ line)) (newR m (.o (.lst xs))) | none => .stuck)
  | .lstU es => (evEs σ m es).bind fun ws m => newU m ws
  | .dicM t => newR m (.o (if t then .dT [] [] else .dK [] []))
  | .ix a b => (evE σ m a).bind fun x m => (evE σ m b).bind fun y m => ixR m x y
  | .sl a b c => (evE σ m a).bind fun x m => (evE σ m b).bind fun y m => (match y with
    | .d (.int i) => (evE σ m c).bind fun z m => (match z with | .d (.int j) => slR m x (some i) (some j) | _ => .stuck)
    | _ => .stuck)
  | .slF a b => (evE σ m a).bind fun x m => (evE σ m b).bind fun y m => (match y with | .d (.int i) => slR m x (some i) none | _ => .stuck)
  | .slT a c => (evE σ m a).bind fun x m => (evE σ m c).bind fun y m => (match y with | .d (.int i) => slR m x none (some i) | _ => .stuck)
  | .at c f a => (evE σ m a).bind fun x m => atR m c f x
  | .call f es => (evEs σ m es).bind fun ws m => C f ws m
  | .meth c f o es => (evE σ m o).bind fun x m => (match clsR m x with
    | some k => if k = c then (evEs σ m es).bind fun ws m => C f (x :: ws) m else .stuck
    | none => .stuck)
  | .new c f es => (evEs σ m es).bind fun ws m => (C f (.h m.length :: ws) (m ++ [some ⟨.ins c [], []⟩])).bind fun _ m1 => .ok (.h m.length) m1
  | .b1 b a => (evE σ m a).bind fun x m => b1R m b x
  | .dm a b => (evE σ m a).bind fun x m => (evE σ m b).bind fun y m => dmR m x y
  | .isi t a => (evE σ m a).bind fun x m => blR (isiR m t x)
  | .list a => (evE σ m a).bind fun x m => (listR m x).bind fun xs m => .ok (.d (.lst xs)) m
  | .listM a => (evE σ m a).bind fun x m => (listR m x).bind fun xs m => newR m (.o (.lst xs))
  | .dict t a => (evE σ m a).bind fun x m => dictR m t x
  | .rngL a b => (evE σ m a).bind fun x m => (evE σ m b).bind fun y m => (match x, y with
    | .d (.int i), .d (.int j) => guardR (decide (-(2 ^ 30) ≤ i) && decide (i < 2 ^ 30) && decide (-(2 ^ 30) ≤ j) && decide (j < 2 ^ 30) && decide ((j - i).toNat ≤ line)) (.ok (.d (.lst ((List.range (j - i).toNat).map fun (k : Nat) => .int (i + k)))) m)
    | _, _ => .stuck)
  | .app a b => (evE σ m a).bind fun x m => guardR (isLst m x) ((evE σ m b).bind fun y m => appR m x y)
  | .ext a b => (evE σ m a).bind fun x m => guardR (isLst m x) ((evE σ m b).bind fun y m => extR m x y)
  | .pop a => (evE σ m a).bind fun x m => popR m x
  | .get a k x => (evE σ m a).bind fun a m => guardR (isDic m a) ((evE σ m k).bind fun k m => (evE σ m x).bind fun x m => getR m a k x)
  | .lc g it c el => ((evE σ m it).bind fun x m => optR (itemsD x) m).bind fun us m =>
      (lcGo (wipeS σ (tgs g)) g (fun σ m => evE σ m c) (fun σ m => evE σ m el) us m).bind fun xs m => guardR (decide (xs.length ≤ line)) (.ok (.d (.lst xs)) m)
  | .gin _ ps a => (evE σ m a).bind fun x m => ginR ps m x
  | .gget _ ps a => (evE σ m a).bind fun x m => ggetR ps m x
  | .cv i es => (match σ[i]? with
    | some (some (.clo l cap)) => (evEs σ m es).bind fun ws m => C l (cap.map .d ++ ws) m
    | _ => .stuck)
  | .lam l is => (match is.mapM fun i => (match σ[i]? with | some (some (.d x)) => some x | _ => none) with
    | some xs => .ok (.clo l xs) m
    | none => .stuck)
def evEs (σ : Sl) (m : Mu) : Es → Res (List W)
  | .nil => .ok [] m
  | .cons e es => (evE σ m e).bind fun w m => (evEs σ m es).bind fun ws m => .ok (w :: ws) m
end
end

/-! ### statements -/
/-- behind a statement -/
inductive SR where
  | next (σ : Sl) (m : Mu)
  | ret (w : W) (σ : Sl) (m : Mu)
  | exc (x : Xn) (σ : Sl) (m : Mu)
  | stuck
def Res.toS {α : Type} (σ : Sl) (r : Res α) (f : α → Mu → SR) : SR := match r with
  | .ok a m => f a m
  | .exc x m => .exc x σ m
  | .stuck => .stuck
@[simp] theorem Res.toS_ok {α : Type} (σ : Sl) (a : α) (m : Mu) (f : α → Mu → SR) : (Res.ok a m).toS σ f = f a m := rfl
@[simp] theorem Res.toS_exc {α : Type} (σ : Sl) (x : Xn) (m : Mu) (f : α → Mu → SR) : (Res.exc x m).toS σ f = .exc x σ m := rfl
@[simp] theorem Res.toS_stuck {α : Type} (σ : Sl) (f : α → Mu → SR) : (Res.stuck : Res α).toS σ f = .stuck := rfl
def SR.then (r : SR) (f : Sl → Mu → SR) : SR := match r with
  | .next σ m => f σ m
  | .ret w σ m => .ret w σ m
  | .exc x σ m => .exc x σ m
  | .stuck => .stuck
@[simp] theorem SR.then_next (σ : Sl) (m : Mu) (f : Sl → Mu → SR) : (SR.next σ m).then f = f σ m := rfl
@[simp] theorem SR.then_ret (w : W) (σ : Sl) (m : Mu) (f : Sl → Mu → SR) : (SR.ret w σ m).then f = .ret w σ m := rfl
@[simp] theorem SR.then_exc (x : Xn) (σ : Sl) (m : Mu) (f : Sl → Mu → SR) : (SR.exc x σ m).then f = .exc x σ m := rfl
@[simp] theorem SR.then_stuck (f : Sl → Mu → SR) : SR.stuck.then f = .stuck := rfl
/-- a test's truth -/
def tst (r : Res W) : Res Bool := r.bind fun w m => match w with
  | .d (.bl b) => .ok b m
  | _ => .stuck
def forGo (g : Tg) (b : Sl → Mu → SR) : List W → Sl → Mu → SR
  | [], σ, m => .next σ m
  | x :: r, σ, m => (match bindG σ x g with
    | some σ1 => (b σ1 m).then fun σ2 m2 => forGo g b r σ2 m2
    | none => .stuck)
def whGo (c : Sl → Mu → Res Bool) (b : Sl → Mu → SR) : Nat → Sl → Mu → SR
  | 0, _, _ => .stuck
  | k + 1, σ, m => (c σ m).toS σ fun t m1 => if t then (b σ m1).then fun σ2 m2 => whGo c b k σ2 m2 else .next σ m1
/-- more turns than any while here -/
def turns : Nat := 1000000
def intF : List W → Option (List Int)
  | [] => some []
  | .d (.int i) :: r => (match intF r with | some t => some (i :: t) | none => none)
  | _ :: _ => none
def catchN (r : SR) (c i : Nat) : SR := match r with
  | .exc x σ m => if x.cls = c then .next (σ.set i (some (.d .non))) m else .exc x σ m
  | r => r
def fieldsF (x : Xn) : List Nat → Option (List D)
  | [] => some []
  | f :: r => (match x.fs[f]?, fieldsF x r with | some i, some t => some (.int i :: t) | _, _ => none)
def catchF (r : SR) (c i : Nat) (fs : List Nat) : SR := match r with
  | .exc x σ m => if x.cls = c then (match fieldsF x fs with | some ds => if i < σ.length then .ret (.d (.lst ds)) σ m else .stuck | none => .stuck) else .exc x σ m
  | r => r
def catchR (r : SR) (cs : List Nat) (x : Nat) (k : Int) : SR := match r with
  | .exc e σ m => if e.cls ∈ cs then .exc ⟨x, [k]⟩ σ m else .exc e σ m
  | r => r
section
variable (C : Calls)
def evIt (σ : Sl) (m : Mu) : It → Res (List W)
  | .seq e => (evE C σ m e).bind fun x m => optR (itemsD x) m
  | .rng a b => (evE C σ m a).bind fun x m => (evE C σ m b).bind fun y m => (match x, y with
    | .d (.int i), .d (.int j) => guardR (decide (-(2 ^ 30) ≤ i) && decide (i < 2 ^ 30) && decide (-(2 ^ 30) ≤ j) && decide (j < 2 ^ 30)) (.ok ((List.range (j - i).toNat).map fun (k : Nat) => .d (.int (i + k))) m)
    | _, _ => .stuck)
  | .enu e => (evE C σ m e).bind fun x m => (match x with
    | .d (.lst xs) => .ok ((List.range xs.length).zip xs |>.map fun p => .d (.tup [.int p.1, p.2])) m
    | _ => .stuck)
  | .zip a b => (evE C σ m a).bind fun x m => (evE C σ m b).bind fun y m => (match x, y with
    | .d (.tup xs), .d (.tup ys) => .ok (xs.zip ys |>.map fun p => .d (.tup [p.1, p.2])) m
    | _, _ => .stuck)
mutual
def evS (σ : Sl) (m : Mu) : S → SR
  | .asg i e => (evE C σ m e).toS σ fun w m => .next (σ.set i (some w)) m
  | .asgT is e => (evE C σ m e).toS σ fun w m => (match bindG σ w (.t is) with | some σ1 => .next σ1 m | none => .stuck)
  | .fzs i => (match σ[i]? with
    | some (some w) => (fzR m w).toS σ fun x m => .next (σ.set i (some (.d x))) m
    | _ => .stuck)
  | .seta c f o e => (evE C σ m e).toS σ fun w m => (evE C σ m o).toS σ fun x m => (sta m c f x w).toS σ fun _ m => .next σ m
  | .setx o k e => (evE C σ m e).toS σ fun w m => (evE C σ m o).toS σ fun x m => (evE C σ m k).toS σ fun y m => (stx m x y w).toS σ fun _ m => .next σ m
  | .auga c f b o e => (evE C σ m o).toS σ fun x m => (atR m c f x).toS σ fun v m => (evE C σ m e).toS σ fun w m => (binR m b v w).toS σ fun z m => (sta m c f x z).toS σ fun _ m => .next σ m
  | .augx b o k e => (evE C σ m o).toS σ fun x m => (evE C σ m k).toS σ fun y m => (ixR m x y).toS σ fun v m => (evE C σ m e).toS σ fun w m => (binR m b v w).toS σ fun z m => (stx m x y z).toS σ fun _ m => .next σ m
  | .ex e => (evE C σ m e).toS σ fun _ m => .next σ m
  | .ret e => (evE C σ m e).toS σ fun w m => .ret w σ m
  | .if_ c a b => (tst (evE C σ m c)).toS σ fun t m => if t then evSs σ m a else evSs σ m b
  | .wh c b => whGo (fun σ m => tst (evE C σ m c)) (fun σ m => evSs σ m b) turns σ m
  | .for_ g it b => (evIt C σ m it).toS σ fun ws m => forGo g (fun σ m => evSs σ m b) ws σ m
  | .rais c _ es => (evEs C σ m es).toS σ fun ws m => (match intF ws with | some is => .exc ⟨c, is⟩ σ m | none => .stuck)
  | .tryN b c i => catchN (evSs σ m b) c i
  | .tryF b c i fs => catchF (evSs σ m b) c i fs
  | .tryR b cs x _ k => catchR (evSs σ m b) cs x k
  | .base => .next σ m
def evSs (σ : Sl) (m : Mu) : Ss → SR
  | .nil => .next σ m
  | .cons s r => (evS σ m s).then fun σ m => evSs σ m r
end
end

/-! ### defs -/
/-- a def: how many parameters, how many slots, its body -/
structure Df where
  np : Nat
  ns : Nat
  body : Ss
/-- what is handed back lies in data or among the objects that were there; the others go -/
def endR (n : Nat) : W → Mu → Res W
  | .d x, m => .ok (.d x) (m.take n)
  | .h k, m => if k < n then .ok (.h k) (m.take n) else .stuck
  | .kt x, m => .ok (.kt x) (m.take n)
  | _, _ => .stuck
def endS (n : Nat) : SR → Res W
  | .next _ m => .ok (.d .non) (m.take n)
  | .ret w _ m => endR n w m
  | .exc x _ m => .exc x (m.take n)
  | .stuck => .stuck
def start (d : Df) (ws : List W) : Sl := ws.map some ++ List.replicate (d.ns - d.np) none
def runD (C : Calls) (d : Df) (ws : List W) (m : Mu) : Res W := if ws.length = d.np then endS m.length (evSs C (start d ws) m d.body) else .stuck
def run (T : List Df) : Nat → Calls
  | 0 => fun _ _ _ => .stuck
  | n + 1 => fun f ws m => match T[f]? with
    | some d => runD (run T n) d ws m
    | none => .stuck
end Cn

/-! # what the data and the objects of Cn are over a heap -/
namespace Cn
open PySem PySem.Spec PyProof.Rows L2

def strV (cs : List Nat) : Str := ⟨cs.toArray⟩
def kyV : Ky → L2.Key
  | .i n => .inl n
  | .s cs => .inr (strV cs)
def ktV (k : List Int) : List L2.Key := k.map .inl

/-- what is known of the text: where the classes of instances stand, their fields' names; what a closure is -/
structure Tx where
  K : PySem.W.Frag
  cad : Nat → Addr
  fn : Nat → List Str
  /-- what stands beside and is nobody's here -/
  side : Hp

mutual
inductive RD (T : Tx) (F : Hp) : V → D → Prop
  | non : RD T F .non .non
  | bl (b : Bool) : RD T F (.bl b) (.bl b)
  | int (i : Int) : RD T F (.int i) (.int i)
  | str (cs : List Nat) : RD T F (.str (strV cs)) (.str cs)
  | tup {a : Addr} {vs : List V} {xs : List D} : F a = some (.tup vs) → RDs T F vs xs → RD T F (.ref a) (.tup xs)
  | lst {a : Addr} {vs : List V} {xs : List D} : Rd F a (.lst vs) → RDs T F vs xs → RD T F (.ref a) (.lst xs)
  | ins {a dx : Addr} {c : Nat} {vs : List V} {xs : List D} : F a = some (.ins (T.cad c) dx ((T.fn c).zip vs)) → vs.length ≤ (T.fn c).length → RDs T F vs xs → RD T F (.ref a) (.ins c xs)
  | dK {a : Addr} {ks : List Ky} {vs : List V} {xs : List D} : F a = some (.dK ((ks.map kyV).zip vs)) → ks.length = vs.length → RDs T F vs xs → RD T F (.ref a) (.dK ks xs)
  | dT {a : Addr} {ks : List (List Int)} {vs : List V} {xs : List D} : F a = some (.dT ((ks.map ktV).zip vs)) → ks.length = vs.length → RDs T F vs xs → RD T F (.ref a) (.dT ks xs)
inductive RDs (T : Tx) (F : Hp) : List V → List D → Prop
  | nil : RDs T F [] []
  | cons {v : V} {vs : List V} {x : D} {xs : List D} : RD T F v x → RDs T F vs xs → RDs T F (v :: vs) (x :: xs)
end
mutual
inductive RK (K : PySem.W.Frag) : V → D → Prop
  | non : RK K .non .non
  | bl (b : Bool) : RK K (.bl b) (.bl b)
  | int (i : Int) : RK K (.int i) (.int i)
  | str (cs : List Nat) : RK K (.str (strV cs)) (.str cs)
  | tup {a : Addr} {vs : List V} {xs : List D} : (∀ H, SqT K H a vs) → RKs K vs xs → RK K (.ref a) (.tup xs)
inductive RKs (K : PySem.W.Frag) : List V → List D → Prop
  | nil : RKs K [] []
  | cons {v : V} {vs : List V} {x : D} {xs : List D} : RK K v x → RKs K vs xs → RKs K (v :: vs) (x :: xs)
end

/-- one heap goes over into another: what was tracked stands -/
def Le (F F' : Hp) : Prop := ∀ a o, F a = some o → F' a = some o
theorem Le.rfl' {F : Hp} : Le F F := fun _ _ e => e
theorem Le.trans {F G H : Hp} (a : Le F G) (b : Le G H) : Le F H := fun x o e => b x o (a x o e)
theorem Le.rd {F F' : Hp} (l : Le F F') {a : Addr} {u : HO} (h : Rd F a u) : Rd F' a u := h.elim (fun e => .inl (l _ _ e)) fun ⟨o, e⟩ => .inr ⟨o, l _ _ e⟩
theorem Le.upd {F H : Hp} (l : Le F H) {a : Addr} {o : HO} (n : F a = none) : Le F (upd H a o) := fun b u e => by
  rw [upd_ne (ne_of_none e n)]
  exact l b u e
theorem Le.new {H : Hp} {a : Addr} {o : HO} (n : H a = none) : Le H (L2.upd H a o) := Le.rfl'.upd n
theorem Le.both {F H : Hp} (l : Le F H) {a : Addr} {o : HO} : Le (L2.upd F a o) (L2.upd H a o) := fun b u e => by
  by_cases h : b = a
  · subst h
    rw [upd_same] at e ⊢
    exact e
  · rw [upd_ne h] at e ⊢
    exact l b u e
theorem side_new {S F H : Hp} (l : Le S H) (f : ∀ a o, S a = some o → F a = none) {a : Addr} {o : HO} (n : H a = none) : ∀ b u, S b = some u → (L2.upd F a o) b = none := fun b u e => by
  rw [upd_ne (fun z => by rw [z] at e; rw [l _ _ e] at n; cases n)]
  exact f b u e
theorem Le.none {F H : Hp} (l : Le F H) {a : Addr} (n : H a = none) : F a = none := by
  cases e : F a with
  | none => rfl
  | some o => rw [l _ _ e] at n; cases n

section
variable {T : Tx} {F F' : Hp}
mutual
theorem RD.mono (l : Le F F') : ∀ {v : V} {x : D}, RD T F v x → RD T F' v x
  | _, _, .non => .non
  | _, _, .bl b => .bl b
  | _, _, .int i => .int i
  | _, _, .str cs => .str cs
  | _, _, .tup h r => .tup (l _ _ h) (RDs.mono l r)
  | _, _, .lst h r => .lst (l.rd h) (RDs.mono l r)
  | _, _, .ins h n r => .ins (l _ _ h) n (RDs.mono l r)
  | _, _, .dK h n r => .dK (l _ _ h) n (RDs.mono l r)
  | _, _, .dT h n r => .dT (l _ _ h) n (RDs.mono l r)
theorem RDs.mono (l : Le F F') : ∀ {vs : List V} {xs : List D}, RDs T F vs xs → RDs T F' vs xs
  | _, _, .nil => .nil
  | _, _, .cons h r => .cons (RD.mono l h) (RDs.mono l r)
end
theorem RDs.length : ∀ {vs : List V} {xs : List D}, RDs T F vs xs → vs.length = xs.length
  | _, _, .nil => rfl
  | _, _, .cons _ r => by simp [RDs.length r]
theorem RDs.get : ∀ {vs : List V} {xs : List D} {i : Nat} {x : D}, RDs T F vs xs → xs[i]? = some x → ∃ v, vs[i]? = some v ∧ RD T F v x
  | _, _, _, _, .nil, e => by simp at e
  | _, _, 0, _, .cons h _, e => by simp at e; subst e; exact ⟨_, rfl, h⟩
  | _, _, i + 1, x, .cons _ r, e => by
    obtain ⟨v, h1, h2⟩ := RDs.get (i := i) (x := x) r (by simpa using e)
    exact ⟨v, by simpa using h1, h2⟩
theorem RDs.getV : ∀ {vs : List V} {xs : List D} {i : Nat} {v : V}, RDs T F vs xs → vs[i]? = some v → ∃ x, xs[i]? = some x ∧ RD T F v x
  | _, _, _, _, .nil, e => by simp at e
  | _, _, 0, _, .cons h _, e => by simp at e; subst e; exact ⟨_, rfl, h⟩
  | _, _, i + 1, v, .cons _ r, e => by
    obtain ⟨x, h1, h2⟩ := RDs.getV (i := i) (v := v) r (by simpa using e)
    exact ⟨x, by simpa using h1, h2⟩
theorem RDs.append : ∀ {vs ws : List V} {xs ys : List D}, RDs T F vs xs → RDs T F ws ys → RDs T F (vs ++ ws) (xs ++ ys)
  | _, _, _, _, .nil, s => s
  | _, _, _, _, .cons h r, s => .cons h (RDs.append r s)
theorem RDs.take : ∀ {vs : List V} {xs : List D} (n : Nat), RDs T F vs xs → RDs T F (vs.take n) (xs.take n)
  | _, _, 0, _ => .nil
  | _, _, _ + 1, .nil => .nil
  | _, _, n + 1, .cons h r => .cons h (RDs.take n r)
theorem RDs.drop : ∀ {vs : List V} {xs : List D} (n : Nat), RDs T F vs xs → RDs T F (vs.drop n) (xs.drop n)
  | _, _, 0, r => r
  | _, _, _ + 1, .nil => .nil
  | _, _, n + 1, .cons _ r => RDs.drop n r
theorem RDs.set : ∀ {vs : List V} {xs : List D} (i : Nat) {v : V} {x : D}, RDs T F vs xs → RD T F v x → RDs T F (vs.set i v) (xs.set i x)
  | _, _, _, _, _, .nil, _ => .nil
  | _, _, 0, _, _, .cons _ r, h => .cons h r
  | _, _, i + 1, _, _, .cons q r, h => .cons q (RDs.set i r h)
theorem RDs.rep {vs : List V} {xs : List D} (r : RDs T F vs xs) : ∀ n : Nat, RDs T F (List.replicate n vs).flatten (List.replicate n xs).flatten
  | 0 => .nil
  | n + 1 => by
    rw [List.replicate_succ, List.replicate_succ, List.flatten_cons, List.flatten_cons]
    exact r.append (RDs.rep r n)
theorem RDs.ints : ∀ (ns : List Int), RDs T F (ns.map V.int) (ns.map D.int)
  | [] => .nil
  | n :: r => .cons (.int n) (RDs.ints r)
theorem RDs.dropLast : ∀ {vs : List V} {xs : List D}, RDs T F vs xs → RDs T F vs.dropLast xs.dropLast
  | _, _, .nil => .nil
  | _, _, .cons h .nil => .nil
  | _, _, .cons h (.cons q r) => .cons h (RDs.dropLast (.cons q r))
theorem RKs.length {K : PySem.W.Frag} : ∀ {vs : List V} {xs : List D}, RKs K vs xs → vs.length = xs.length
  | _, _, .nil => rfl
  | _, _, .cons _ r => by simp [RKs.length r]
theorem RKs.get {K : PySem.W.Frag} : ∀ {vs : List V} {xs : List D} {i : Nat} {x : D}, RKs K vs xs → xs[i]? = some x → ∃ v, vs[i]? = some v ∧ RK K v x
  | _, _, _, _, .nil, e => by simp at e
  | _, _, 0, _, .cons h _, e => by simp at e; subst e; exact ⟨_, rfl, h⟩
  | _, _, i + 1, x, .cons _ r, e => by
    obtain ⟨v, h1, h2⟩ := RKs.get (i := i) (x := x) r (by simpa using e)
    exact ⟨v, by simpa using h1, h2⟩
/-- a module's tuple of no tuples is data anywhere -/
theorem RK.atom {K : PySem.W.Frag} {v : V} {x : D} (h : RK K v x) (e : x.atom = true) : RD T F v x := by
  cases h with
  | non => exact .non
  | bl b => exact .bl b
  | int i => exact .int i
  | str cs => exact .str cs
  | tup _ _ => cases e
theorem RKs.atoms {K : PySem.W.Frag} : ∀ {vs : List V} {xs : List D}, RKs K vs xs → xs.all D.atom = true → RDs T F vs xs
  | _, _, .nil, _ => .nil
  | _, _, .cons h r, e => by
    rw [List.all_cons, Bool.and_eq_true] at e
    exact .cons (h.atom e.1) (RKs.atoms r e.2)
end

/-! ### values, objects -/
abbrev Ro := List (Addr × List Addr)
def roI (ρ : Ro) (n f : Nat) : Option Addr := match ρ[n]? with
  | some p => p.2[f]?
  | none => none
def RW (T : Tx) (F : Hp) (ρ : Ro) (v : V) : W → Prop
  | .d x => RD T F v x
  | .kt x => RK T.K v x
  | .h n => ∃ p, ρ[n]? = some p ∧ v = .ref p.1
  | .hi n f => ∃ a, roI ρ n f = some a ∧ v = .ref a
  | .clo _ _ => False
def RWs (T : Tx) (F : Hp) (ρ : Ro) : List V → List W → Prop := Paired (RW T F ρ)
/-- what lies in an object whose inner ones stand at as -/
def RU (T : Tx) (F : Hp) (as : List Addr) (v : V) : U → Prop
  | .d x => RD T F v x
  | .i f => ∃ a, as[f]? = some a ∧ v = .ref a
abbrev RUs (T : Tx) (F : Hp) (as : List Addr) : List V → List U → Prop := Paired (RU T F as)
def RF (T : Tx) (F : Hp) : Fo → HO → Prop
  | .lst xs, o => ∃ vs, o = .lst vs ∧ RDs T F vs xs
  | .dK ks xs, o => ∃ vs, o = .dK ((ks.map kyV).zip vs) ∧ ks.length = vs.length ∧ RDs T F vs xs
  | .dT ks xs, o => ∃ vs, o = .dT ((ks.map ktV).zip vs) ∧ ks.length = vs.length ∧ RDs T F vs xs
def RR (T : Tx) (F : Hp) (as : List Addr) : Ob → HO → Prop
  | .lst us, o => ∃ vs, o = .lst vs ∧ RUs T F as vs us
  | .ins c us, o => ∃ dx vs, o = .ins (T.cad c) dx ((T.fn c).zip vs) ∧ vs.length ≤ (T.fn c).length ∧ RUs T F as vs us
  | .o f, o => RF T F f o
/-- the object n stands: ow tells whose an address is -/
structure RG (T : Tx) (F H : Hp) (ow : Addr → Nat × Option Nat) (n : Nat) (p : Addr × List Addr) (g : Gr) : Prop where
  own : ow p.1 = (n, none)
  fr : F p.1 = none
  root : ∃ o, H p.1 = some o ∧ RR T F p.2 g.root o
  len : p.2.length = g.inn.length
  inn : ∀ f b o, p.2[f]? = some b → g.inn[f]? = some (some o) → ow b = (n, some f) ∧ F b = none ∧ ∃ u, H b = some u ∧ RF T F o u
  sd : T.side p.1 = none ∧ ∀ (f : Nat) (b : Addr) (o : Fo), p.2[f]? = some b → g.inn[f]? = some (some o) → T.side b = none
structure Rel (T : Tx) (F : Hp) (ρ : Ro) (H : Hp) (m : Mu) : Prop where
  sub : Le F H
  len : ρ.length = m.length
  ex : ∃ ow : Addr → Nat × Option Nat, ∀ n p g, ρ[n]? = some p → m[n]? = some (some g) → RG T F H ow n p g
  sd : Le T.side H
  sf : ∀ a o, T.side a = some o → F a = none
/-- the slots -/
def RSl (T : Tx) (F : Hp) (ρ : Ro) (σ : L2.St) (ws : Sl) : Prop := σ.length = ws.length ∧ ∀ (i : Nat) (w : W), ws[i]? = some (some w) → ∃ v, σ[i]? = some (some v) ∧ RW T F ρ v w
/-- places grow -/
def RoLe (ρ ρ' : Ro) : Prop := ρ.length ≤ ρ'.length ∧ ∀ (n : Nat) (p : Addr × List Addr), ρ[n]? = some p → ∃ as, ρ'[n]? = some (p.1, p.2 ++ as)
theorem RoLe.rfl' {ρ : Ro} : RoLe ρ ρ := ⟨Nat.le_refl _, fun n p e => ⟨[], by rw [e]; simp⟩⟩
theorem RoLe.trans {a b c : Ro} (h : RoLe a b) (g : RoLe b c) : RoLe a c := ⟨Nat.le_trans h.1 g.1, fun n p e => by
  obtain ⟨as, e1⟩ := h.2 n p e
  obtain ⟨bs, e2⟩ := g.2 n _ e1
  exact ⟨as ++ bs, by rw [e2]; simp⟩⟩
section
variable {T : Tx} {F F' H H' : Hp} {ρ ρ' : Ro} {m : Mu}
theorem roI_mono (h : RoLe ρ ρ') {n f : Nat} {a : Addr} (e : roI ρ n f = some a) : roI ρ' n f = some a := by
  unfold roI at e ⊢
  cases q : ρ[n]? with
  | none => rw [q] at e; cases e
  | some p =>
    rw [q] at e
    obtain ⟨as, e1⟩ := h.2 n p q
    rw [e1]
    have e' : p.2[f]? = some a := e
    show (p.2 ++ as)[f]? = some a
    rw [List.getElem?_append_left (List.getElem?_eq_some_iff.mp e').1]
    exact e'
theorem RW.mono (l : Le F F') (h : RoLe ρ ρ') {v : V} : ∀ {w : W}, RW T F ρ v w → RW T F' ρ' v w
  | .d _, r => RD.mono l r
  | .kt _, r => r
  | .h n, ⟨p, e, q⟩ => by
    obtain ⟨as, e1⟩ := h.2 n p e
    exact ⟨_, e1, q⟩
  | .hi n f, ⟨a, e, q⟩ => ⟨a, roI_mono h e, q⟩
  | .clo _ _, r => r
theorem RWs.mono (l : Le F F') (h : RoLe ρ ρ') : ∀ {vs : List V} {ws : List W}, RWs T F ρ vs ws → RWs T F' ρ' vs ws
  | _, _, .nil => .nil
  | _, _, .cons r s => .cons (RW.mono l h r) (RWs.mono l h s)
theorem RSl.mono (l : Le F F') (h : RoLe ρ ρ') {σ : L2.St} {ws : Sl} (r : RSl T F ρ σ ws) : RSl T F' ρ' σ ws := ⟨r.1, fun i w e => by
  obtain ⟨v, e1, q⟩ := r.2 i w e
  exact ⟨v, e1, q.mono l h⟩⟩
theorem RSl.set {σ : L2.St} {ws : Sl} (r : RSl T F ρ σ ws) (i : Nat) {v : V} {w : W} (h : RW T F ρ v w) : RSl T F ρ (σ.set i (some v)) (ws.set i (some w)) := by
  refine ⟨by simpa using r.1, fun j u e => ?_⟩
  by_cases hj : i = j
  · subst hj
    have hl : i < ws.length := by
      have := (List.getElem?_eq_some_iff.mp e).1
      simpa using this
    rw [List.getElem?_set_self hl] at e
    cases e
    exact ⟨v, List.getElem?_set_self (by rw [r.1]; exact hl), h⟩
  · rw [List.getElem?_set_ne hj] at e ⊢
    exact r.2 j u e
theorem RU.mono (l : Le F F') {as bs : List Addr} {v : V} : ∀ {u : U}, RU T F as v u → RU T F' (as ++ bs) v u
  | .d _, r => RD.mono l r
  | .i f, ⟨a, e, q⟩ => ⟨a, by rw [List.getElem?_append_left (List.getElem?_eq_some_iff.mp e).1]; exact e, q⟩
theorem RUs.mono (l : Le F F') {as bs : List Addr} : ∀ {vs : List V} {us : List U}, RUs T F as vs us → RUs T F' (as ++ bs) vs us
  | _, _, .nil => .nil
  | _, _, .cons r s => .cons (RU.mono l r) (RUs.mono l s)
theorem RF.mono (l : Le F F') {f : Fo} {o : HO} (r : RF T F f o) : RF T F' f o := by
  cases f with
  | lst xs => obtain ⟨vs, e, q⟩ := r; exact ⟨vs, e, q.mono l⟩
  | dK ks xs => obtain ⟨vs, e, n, q⟩ := r; exact ⟨vs, e, n, q.mono l⟩
  | dT ks xs => obtain ⟨vs, e, n, q⟩ := r; exact ⟨vs, e, n, q.mono l⟩
theorem RR.mono (l : Le F F') {as : List Addr} (bs : List Addr) {f : Ob} {o : HO} (r : RR T F as f o) : RR T F' (as ++ bs) f o := by
  cases f with
  | lst us => obtain ⟨vs, e, q⟩ := r; exact ⟨vs, e, RUs.mono l q⟩
  | ins c us => obtain ⟨dx, vs, e, n, q⟩ := r; exact ⟨dx, vs, e, n, RUs.mono l q⟩
  | o f => exact RF.mono l r
theorem RR.monoF (l : Le F F') {as : List Addr} {f : Ob} {o : HO} (r : RR T F as f o) : RR T F' as f o := by
  have := RR.mono l [] r
  rwa [List.append_nil] at this
theorem PairedLen {α β : Type} {R : α → β → Prop} : ∀ {xs : List α} {ys : List β}, Paired R xs ys → xs.length = ys.length
  | _, _, .nil => rfl
  | _, _, .cons _ t => by simp [PairedLen t]

/-- a live object's address is tracked -/
theorem Rel.tracked (r : Rel T F ρ H m) {n : Nat} {p : Addr × List Addr} {g : Gr} (e : ρ[n]? = some p) (q : m[n]? = some (some g)) : ∃ o, H p.1 = some o := by
  obtain ⟨ow, h⟩ := r.ex
  obtain ⟨o, e1, _⟩ := (h n p g e q).root
  exact ⟨o, e1⟩
/-- a new thing of data: tracked in both -/
theorem Rel.grow (r : Rel T F ρ H m) {a : Addr} {o : HO} (n : H a = none) : Rel T (upd F a o) ρ (upd H a o) m := by
  obtain ⟨ow, h⟩ := r.ex
  have lF : Le F (upd F a o) := Le.new (r.sub.none n)
  refine ⟨r.sub.both, r.len, ⟨ow, fun k p g e q => ?_⟩, r.sd.upd (r.sd.none n), side_new r.sd r.sf n⟩
  obtain ⟨h1, h2, ⟨o1, h3, h3'⟩, h4, h5, h6⟩ := h k p g e q
  refine ⟨h1, by rw [upd_ne (ne_of_none h3 n)]; exact h2, ⟨o1, by rw [upd_ne (ne_of_none h3 n)]; exact h3, h3'.monoF lF⟩, h4, fun f b u e1 e2 => ?_, h6⟩
  obtain ⟨k1, k2, u', k3, k4⟩ := h5 f b u e1 e2
  exact ⟨k1, by rw [upd_ne (ne_of_none k3 n)]; exact k2, u', by rw [upd_ne (ne_of_none k3 n)]; exact k3, k4.mono lF⟩
/-- a thing that is tracked beside -/
theorem Rel.side (r : Rel T F ρ H m) {a : Addr} {o : HO} (n : H a = none) : Rel T F ρ (upd H a o) m := by
  obtain ⟨ow, h⟩ := r.ex
  refine ⟨r.sub.upd (r.sub.none n), r.len, ⟨ow, fun k p g e q => ?_⟩, r.sd.upd (r.sd.none n), r.sf⟩
  obtain ⟨h1, h2, ⟨o1, h3, h3'⟩, h4, h5, h6⟩ := h k p g e q
  refine ⟨h1, h2, ⟨o1, by rw [upd_ne (ne_of_none h3 n)]; exact h3, h3'⟩, h4, fun f b u e1 e2 => ?_, h6⟩
  obtain ⟨k1, k2, u', k3, k4⟩ := h5 f b u e1 e2
  exact ⟨k1, k2, u', by rw [upd_ne (ne_of_none k3 n)]; exact k3, k4⟩
/-- a new object -/
theorem Rel.alloc (r : Rel T F ρ H m) {a : Addr} {ho : HO} {ob : Ob} (n : H a = none) (h : RR T F [] ob ho) : Rel T F (ρ ++ [(a, [])]) (upd H a ho) (m ++ [some ⟨ob, []⟩]) := by
  obtain ⟨ow, hx⟩ := r.ex
  refine ⟨r.sub.upd (r.sub.none n), by simp [r.len], ⟨fun b => if b = a then (m.length, none) else ow b, fun k p g e q => ?_⟩, r.sd.upd (r.sd.none n), r.sf⟩
  by_cases hk : k < m.length
  · rw [List.getElem?_append_left (by rw [r.len]; exact hk)] at e
    rw [List.getElem?_append_left hk] at q
    obtain ⟨h1, h2, ⟨o1, h3, h3'⟩, h4, h5, h6⟩ := hx k p g e q
    have ne := ne_of_none h3 n
    refine ⟨(if_neg ne).trans h1, h2, ⟨o1, by rw [upd_ne ne]; exact h3, h3'⟩, h4, fun f b u e1 e2 => ?_, h6⟩
    obtain ⟨k1, k2, u', k3, k4⟩ := h5 f b u e1 e2
    have nb := ne_of_none k3 n
    exact ⟨(if_neg nb).trans k1, k2, u', by rw [upd_ne nb]; exact k3, k4⟩
  · have hkm : k = m.length := by
      have := (List.getElem?_eq_some_iff.mp q).1
      simp at this
      omega
    subst hkm
    rw [← r.len, List.getElem?_append_right (Nat.le_refl _)] at e
    rw [List.getElem?_append_right (Nat.le_refl _)] at q
    simp at e q
    subst e q
    exact ⟨by simp, r.sub.none n, ⟨ho, upd_same, h⟩, rfl, fun f b u e1 e2 => by simp at e1, r.sd.none n, fun f b u e1 e2 => by simp at e1⟩
theorem RoLe.snoc {ρ : Ro} {p : Addr × List Addr} : RoLe ρ (ρ ++ [p]) := ⟨by simp, fun n q e => ⟨[], by
  rw [List.getElem?_append_left (List.getElem?_eq_some_iff.mp e).1, e]
  simp⟩⟩
theorem Rel.take (r : Rel T F ρ H m) (n : Nat) : Rel T F (ρ.take n) H (m.take n) := by
  obtain ⟨ow, hx⟩ := r.ex
  refine ⟨r.sub, by simp [r.len], ⟨ow, fun k p g e q => ?_⟩, r.sd, r.sf⟩
  rw [List.getElem?_take] at e q
  by_cases hk : k < n
  · rw [if_pos hk] at e q
    exact hx k p g e q
  · rw [if_neg hk] at e
    cases e
theorem grAt_some {m : Mu} {n : Nat} {g : Gr} (h : grAt m n = some g) : m[n]? = some (some g) := by
  unfold grAt at h
  split at h
  · rename_i g' e
    cases h
    exact e
  · cases h
theorem rootAt_some {m : Mu} {n : Nat} {o : Ob} (h : rootAt m n = some o) : ∃ g, m[n]? = some (some g) ∧ g.root = o := by
  unfold rootAt at h
  split at h
  · rename_i g e
    cases h
    exact ⟨g, grAt_some e, rfl⟩
  · cases h
theorem inAt_some {m : Mu} {n f : Nat} {o : Fo} (h : inAt m n f = some o) : ∃ g, m[n]? = some (some g) ∧ g.inn[f]? = some (some o) := by
  unfold inAt at h
  split at h
  · rename_i g e
    split at h
    · rename_i o' e'
      cases h
      exact ⟨g, grAt_some e, e'⟩
    · cases h
  · cases h
/-- an object changes: its root -/
theorem Rel.setRoot (r : Rel T F ρ H m) {n : Nat} {p : Addr × List Addr} {g : Gr} {ho : HO} {ob : Ob} (e : ρ[n]? = some p) (q : m[n]? = some (some g)) (h : RR T F p.2 ob ho) : Rel T F ρ (upd H p.1 ho) (setRoot m n ob) := by
  obtain ⟨ow, hx⟩ := r.ex
  have hn := hx n p g e q
  have hg : grAt m n = some g := by unfold grAt; rw [q]
  have hs : Cn.setRoot m n ob = m.set n (some { g with root := ob }) := by unfold Cn.setRoot; rw [hg]
  rw [hs]
  refine ⟨r.sub.upd hn.fr, by simp [r.len], ⟨ow, fun k p' g' e' q' => ?_⟩, r.sd.upd hn.sd.1, r.sf⟩
  by_cases hk : n = k
  · subst hk
    rw [e] at e'
    cases e'
    have hl : n < m.length := (List.getElem?_eq_some_iff.mp q).1
    rw [List.getElem?_set_self hl] at q'
    cases q'
    refine ⟨hn.own, hn.fr, ⟨ho, upd_same, h⟩, hn.len, fun f b o e1 e2 => ?_, hn.sd⟩
    obtain ⟨k1, k2, u, k3, k4⟩ := hn.inn f b o e1 e2
    have ne : b ≠ p.1 := fun z => by rw [z, hn.own] at k1; cases k1
    exact ⟨k1, k2, u, by rw [upd_ne ne]; exact k3, k4⟩
  · rw [List.getElem?_set_ne hk] at q'
    obtain ⟨h1, h2, ⟨o1, h3, h3'⟩, h4, h5, h6⟩ := hx k p' g' e' q'
    have ne : p'.1 ≠ p.1 := fun z => by rw [z, hn.own] at h1; exact hk (congrArg Prod.fst h1)
    refine ⟨h1, h2, ⟨o1, by rw [upd_ne ne]; exact h3, h3'⟩, h4, fun f b u e1 e2 => ?_, h6⟩
    obtain ⟨k1, k2, u', k3, k4⟩ := h5 f b u e1 e2
    have nb : b ≠ p.1 := fun z => by rw [z, hn.own] at k1; exact hk (congrArg Prod.fst k1)
    exact ⟨k1, k2, u', by rw [upd_ne nb]; exact k3, k4⟩
/-- .. an inner one -/
theorem Rel.setIn (r : Rel T F ρ H m) {n f : Nat} {p : Addr × List Addr} {g : Gr} {b : Addr} {ho : HO} {fo fo' : Fo} (e : ρ[n]? = some p) (q : m[n]? = some (some g)) (eb : p.2[f]? = some b) (qf : g.inn[f]? = some (some fo')) (h : RF T F fo ho) :
    Rel T F ρ (upd H b ho) (setIn m n f (some fo)) := by
  obtain ⟨ow, hx⟩ := r.ex
  have hn := hx n p g e q
  obtain ⟨b1, b2, _⟩ := hn.inn f b fo' eb qf
  have hg : grAt m n = some g := by unfold grAt; rw [q]
  have hs : Cn.setIn m n f (some fo) = m.set n (some { g with inn := g.inn.set f (some fo) }) := by unfold Cn.setIn; rw [hg]
  rw [hs]
  refine ⟨r.sub.upd b2, by simp [r.len], ⟨ow, fun k p' g' e' q' => ?_⟩, r.sd.upd (hn.sd.2 f b fo' eb qf), r.sf⟩
  by_cases hk : n = k
  · subst hk
    rw [e] at e'
    cases e'
    have hl : n < m.length := (List.getElem?_eq_some_iff.mp q).1
    rw [List.getElem?_set_self hl] at q'
    cases q'
    obtain ⟨o1, h3, h3'⟩ := hn.root
    have ne : p.1 ≠ b := fun z => by rw [← z, hn.own] at b1; cases b1
    refine ⟨hn.own, hn.fr, ⟨o1, by rw [upd_ne ne]; exact h3, h3'⟩, by simpa using hn.len, fun f' b' o e1 e2 => ?_, hn.sd.1, fun f' b' o e1 e2 => ?_⟩
    rotate_left
    · by_cases hf : f = f'
      · subst hf
        exact hn.sd.2 f b' fo' e1 qf
      · have e2' : (g.inn.set f (some fo))[f']? = some (some o) := e2
        rw [List.getElem?_set_ne hf] at e2'
        exact hn.sd.2 f' b' o e1 e2'
    by_cases hf : f = f'
    · subst hf
      rw [eb] at e1
      cases e1
      have hlf : f < g.inn.length := (List.getElem?_eq_some_iff.mp qf).1
      have e2' : (g.inn.set f (some fo))[f]? = some (some o) := e2
      rw [List.getElem?_set_self hlf] at e2'
      cases e2'
      exact ⟨b1, b2, ho, upd_same, h⟩
    · have e2' : (g.inn.set f (some fo))[f']? = some (some o) := e2
      rw [List.getElem?_set_ne hf] at e2'
      obtain ⟨k1, k2, u, k3, k4⟩ := hn.inn f' b' o e1 e2'
      have nb : b' ≠ b := fun z => by rw [z, b1] at k1; exact hf (Option.some.inj (congrArg Prod.snd k1))
      exact ⟨k1, k2, u, by rw [upd_ne nb]; exact k3, k4⟩
  · rw [List.getElem?_set_ne hk] at q'
    obtain ⟨h1, h2, ⟨o1, h3, h3'⟩, h4, h5, h6⟩ := hx k p' g' e' q'
    have ne : p'.1 ≠ b := fun z => by rw [z, b1] at h1; cases h1
    refine ⟨h1, h2, ⟨o1, by rw [upd_ne ne]; exact h3, h3'⟩, h4, fun f' b' u e1 e2 => ?_, h6⟩
    obtain ⟨k1, k2, u', k3, k4⟩ := h5 f' b' u e1 e2
    have nb : b' ≠ b := fun z => by rw [z, b1] at k1; exact hk (congrArg Prod.fst k1)
    exact ⟨k1, k2, u', by rw [upd_ne nb]; exact k3, k4⟩
end
end Cn

namespace Cn
open PySem PySem.Spec PyProof.Rows L2

/-- an exception as it lies: its class, its own dict -/
structure Xt where
  xad : Nat → Addr
  xfn : Nat → List Str
  num : Nat
def RX (xt : Xt) (F : Hp) (c : Value) (dx : Option Addr) (x : Xn) : Prop :=
  c = .ref (xt.xad x.cls) ∧ x.cls < xt.num ∧ x.fs.length = (xt.xfn x.cls).length ∧ (x.fs = [] ∨ ∃ d fs, dx = some d ∧ F d = some (.xd fs) ∧ ∀ (i : Nat) (n : Str) (z : Int), (xt.xfn x.cls)[i]? = some n → x.fs[i]? = some z → fs.lookup n = some (.int z))
theorem RX.mono {xt : Xt} {F F' : Hp} (l : Le F F') {c : Value} {dx : Option Addr} {x : Xn} (r : RX xt F c dx x) : RX xt F' c dx x := by
  obtain ⟨h1, h0, h2, h3⟩ := r
  refine ⟨h1, h0, h2, h3.elim .inl fun ⟨d, fs, a, b, e⟩ => .inr ⟨d, fs, a, l _ _ b, e⟩⟩

/-- behind a reckoning: its value with the heap then, or an exception -/
def After (T : Tx) (xt : Xt) (F : Hp) (ρ : Ro) {α : Type} (r : Res α) (k : Hp → Ro → Hp → Mu → α → Prop) (e : XK) : Prop := match r with
  | .ok a m => ∀ F' ρ' H', Rel T F' ρ' H' m → Le F F' → RoLe ρ ρ' → k F' ρ' H' m a
  | .exc x m => ∀ F' ρ' H' c dx, Rel T F' ρ' H' m → Le F F' → RoLe ρ ρ' → RX xt F' c dx x → e c dx H'
  | .stuck => False
section
variable {T : Tx} {xt : Xt} {F F' : Hp} {ρ ρ' : Ro} {α β : Type} {r : Res α} {k k' : Hp → Ro → Hp → Mu → α → Prop} {e e' : XK}
theorem After.mono (h : After T xt F ρ r k e) (l : Le F F') (g : RoLe ρ ρ') : After T xt F' ρ' r k e := by
  cases r with
  | ok a m => exact fun F1 ρ1 H1 R l1 g1 => h F1 ρ1 H1 R (l.trans l1) (g.trans g1)
  | exc x m => exact fun F1 ρ1 H1 c dx R l1 g1 => h F1 ρ1 H1 c dx R (l.trans l1) (g.trans g1)
  | stuck => exact h
theorem After.imp (h : After T xt F ρ r k e) (hk : ∀ F' ρ' H' m a, Rel T F' ρ' H' m → Le F F' → RoLe ρ ρ' → k F' ρ' H' m a → k' F' ρ' H' m a) (he : ∀ c dx H', e c dx H' → e' c dx H') : After T xt F ρ r k' e' := by
  cases r with
  | ok a m => exact fun F1 ρ1 H1 R l1 g1 => hk _ _ _ _ _ R l1 g1 (h F1 ρ1 H1 R l1 g1)
  | exc x m => exact fun F1 ρ1 H1 c dx R l1 g1 x => he _ _ _ (h F1 ρ1 H1 c dx R l1 g1 x)
  | stuck => exact h
theorem After.bind {f : α → Mu → Res β} {k : Hp → Ro → Hp → Mu → β → Prop} (h : After T xt F ρ (r.bind f) k e) : After T xt F ρ r (fun F' ρ' _ m a => After T xt F' ρ' (f a m) k e) e := by
  cases r with
  | ok a m => exact fun F1 ρ1 H1 R l1 g1 => After.mono (r := f a m) h l1 g1
  | exc x m => exact h
  | stuck => exact h
theorem After.ok {a : α} {m : Mu} {H : Hp} (h : After T xt F ρ (.ok a m) k e) (R : Rel T F ρ H m) : k F ρ H m a := h F ρ H R Le.rfl' .rfl'
end

/-- an expression's reading -/
def tE (T : Tx) (xt : Xt) (W' : WX) (ev : Sl → Mu → Res W) : TE := fun σ H Q => ∃ F ρ m ws, Rel T F ρ H m ∧ RSl T F ρ σ ws ∧
  After T xt F ρ (ev ws m) (fun F' ρ' H' _ w => ∀ v, RW T F' ρ' v w → Q v H') (fun c dx H' => W' c dx σ H')
def tT (T : Tx) (xt : Xt) (W' : WX) (ev : Sl → Mu → Res Bool) : TT := fun σ H Q => ∃ F ρ m ws, Rel T F ρ H m ∧ RSl T F ρ σ ws ∧
  After T xt F ρ (ev ws m) (fun _ _ H' _ b => Q b H') (fun c dx H' => W' c dx σ H')
def tA (T : Tx) (xt : Xt) (W' : WX) (ev : Sl → Mu → Res (List W)) : TA := fun σ H Q => ∃ F ρ m ws, Rel T F ρ H m ∧ RSl T F ρ σ ws ∧
  After T xt F ρ (ev ws m) (fun F' ρ' H' _ us => ∀ vs, RWs T F' ρ' vs us → Q vs H') (fun c dx H' => W' c dx σ H')
def AfterS (T : Tx) (xt : Xt) (W' : WX) (D : Ends) (F : Hp) (ρ : Ro) (σ : L2.St) (r : SR) : Prop := match r with
  | .next ws m => ∀ F' ρ' H' σ', Rel T F' ρ' H' m → Le F F' → RoLe ρ ρ' → RSl T F' ρ' σ' ws → D.nx σ' H'
  | .ret w _ m => ∀ F' ρ' H' v, Rel T F' ρ' H' m → Le F F' → RoLe ρ ρ' → RW T F' ρ' v w → D.rt v H'
  | .exc x ws m => ∀ F' ρ' H' σ' c dx, Rel T F' ρ' H' m → Le F F' → RoLe ρ ρ' → RSl T F' ρ' σ' ws → RX xt F' c dx x → W' c dx σ' H'
  | .stuck => False
def tS (T : Tx) (xt : Xt) (W' : WX) (ev : Sl → Mu → SR) : TS := fun D σ H => ∃ F ρ m ws, Rel T F ρ H m ∧ RSl T F ρ σ ws ∧ AfterS T xt W' D F ρ σ (ev ws m)

theorem _root_.L2.PE.imp {X : Cx} {e : Expr} {t t' : TE} (h : PE X e t) (i : ∀ σ H Q, t' σ H Q → t σ H Q) : PE X e t' := ⟨fun pins s σ H Q I q => h.run pins s σ H Q I (i σ H Q q)⟩
theorem _root_.L2.PT.imp {X : Cx} {e : Expr} {t t' : TT} (h : PT X e t) (i : ∀ σ H Q, t' σ H Q → t σ H Q) : PT X e t' := ⟨fun pins s σ H Q I q => h.run pins s σ H Q I (i σ H Q q)⟩
theorem _root_.L2.PA.imp {X : Cx} {e : List Expr} {t t' : TA} (h : PA X e t) (i : ∀ σ H Q, t' σ H Q → t σ H Q) : PA X e t' := ⟨fun pos pins s σ H Q I q => h.run pos pins s σ H Q I (i σ H Q q)⟩
theorem _root_.L2.PS.imp {X : Cx} {e : Stmt} {t t' : TS} (h : PS X e t) (i : ∀ D σ H, t' D σ H → t D σ H) : PS X e t' := ⟨fun pins s σ H D I q => h.run pins s σ H D I (i D σ H q)⟩
theorem _root_.L2.PSs.imp {X : Cx} {e : List Stmt} {t t' : TS} (h : PSs X e t) (i : ∀ D σ H, t' D σ H → t D σ H) : PSs X e t' := ⟨fun pins s σ H D I q => h.run pins s σ H D I (i D σ H q)⟩

section
variable {T : Tx} {xt : Xt} {W' : WX} {σ : L2.St} {H : Hp}
/-- the first of two -/
theorem tE_bind {ea : Sl → Mu → Res W} {f : Sl → W → Mu → Res W} {Q : VK} (h : tE T xt W' (fun ws m => (ea ws m).bind (f ws)) σ H Q) {R : V → Hp → Prop}
    (g : ∀ F ρ m ws v w H1, Rel T F ρ H1 m → RSl T F ρ σ ws → RW T F ρ v w → After T xt F ρ (f ws w m) (fun F' ρ' H' _ w => ∀ v, RW T F' ρ' v w → Q v H') (fun c dx H' => W' c dx σ H') → R v H1) : tE T xt W' ea σ H R := by
  obtain ⟨F, ρ, m, ws, r, s, a⟩ := h
  refine ⟨F, ρ, m, ws, r, s, a.bind.imp (fun F1 ρ1 H1 m1 w r1 l1 g1 k v hv => ?_) fun _ _ _ z => z⟩
  exact g F1 ρ1 m1 ws v w H1 r1 (s.mono l1 g1) hv k
/-- an operation of one, two values -/
def r1 (T : Tx) (xt : Xt) (f : Mu → W → Res W) : V → Hp → VK → Prop := fun x H Q => ∃ F ρ m w, Rel T F ρ H m ∧ RW T F ρ x w ∧ After T xt F ρ (f m w) (fun F' ρ' H' _ z => ∀ v, RW T F' ρ' v z → Q v H') (fun _ _ _ => True)
def r2 (T : Tx) (xt : Xt) (f : Mu → W → W → Res W) : R2 := fun x y H Q => ∃ F ρ m w u, Rel T F ρ H m ∧ RW T F ρ x w ∧ RW T F ρ y u ∧ After T xt F ρ (f m w u) (fun F' ρ' H' _ z => ∀ v, RW T F' ρ' v z → Q v H') (fun _ _ _ => True)
theorem tOp_of {ea eb : Sl → Mu → Res W} {f : Mu → W → W → Res W} {Q : VK} (h : tE T xt W' (fun ws m => (ea ws m).bind fun x m => (eb ws m).bind fun y m => f m x y) σ H Q) : tOp (r2 T xt f) (tE T xt W' ea) (tE T xt W' eb) σ H Q := by
  refine tE_bind (f := fun ws x m => (eb ws m).bind fun y m => f m x y) h fun F ρ m ws v w H1 R S hv a => ?_
  refine ⟨F, ρ, m, ws, R, S, a.bind.imp (fun F1 ρ1 H2 m1 u r1 l1 g1 k y hy => ?_) fun _ _ _ z => z⟩
  exact ⟨F1, ρ1, m1, w, u, r1, hv.mono l1 g1, hy, k.imp (fun _ _ _ _ _ _ _ _ z => z) fun _ _ _ _ => trivial⟩
theorem tUn_of {ea : Sl → Mu → Res W} {f : Mu → W → Res W} {Q : VK} (h : tE T xt W' (fun ws m => (ea ws m).bind fun x m => f m x) σ H Q) : tUn (r1 T xt f) (tE T xt W' ea) σ H Q :=
  tE_bind (f := fun ws x m => f m x) h fun F ρ m ws v w H1 R S hv a => ⟨F, ρ, m, w, R, hv, a.imp (fun _ _ _ _ _ _ _ _ z => z) fun _ _ _ _ => trivial⟩
end

/-! ### data as PyData -/
mutual
def toPy : D → PyData
  | .non => .none
  | .bl b => .bool b
  | .int i => .int i
  | .str cs => .str (strV cs)
  | .tup xs => .tuple (toPys xs)
  | .lst xs => .list (toPys xs)
  | .ins _ _ => .none
  | .dK _ _ => .none
  | .dT _ _ => .none
def toPys : List D → List PyData
  | [] => []
  | x :: r => toPy x :: toPys r
end
mutual
theorem toPy_plain : ∀ x : D, (toPy x).plain = true
  | .non => rfl
  | .bl _ => rfl
  | .int _ => rfl
  | .str _ => rfl
  | .tup xs => by simp only [toPy, PyData.plain]; exact toPys_plain xs
  | .lst xs => by simp only [toPy, PyData.plain]; exact toPys_plain xs
  | .ins _ _ => rfl
  | .dK _ _ => rfl
  | .dT _ _ => rfl
theorem toPys_plain : ∀ xs : List D, PyData.plainAll (toPys xs) = true
  | [] => rfl
  | x :: r => by simp only [toPys, PyData.plainAll, toPy_plain x, toPys_plain r, Bool.and_self]
end
mutual
theorem toPy_depth : ∀ x : D, (toPy x).depth = x.depth
  | .non => rfl
  | .bl _ => rfl
  | .int _ => rfl
  | .str _ => rfl
  | .tup xs => by simp only [toPy, PyData.depth, D.depth, toPys_depth xs]
  | .lst xs => by simp only [toPy, PyData.depth, D.depth, toPys_depth xs]
  | .ins _ _ => rfl
  | .dK _ _ => rfl
  | .dT _ _ => rfl
theorem toPys_depth : ∀ xs : List D, PyData.depthAll (toPys xs) = D.depths xs
  | [] => rfl
  | x :: r => by simp only [toPys, PyData.depthAll, D.depths, toPy_depth x, toPys_depth r]
end
theorem strV_inj {a b : List Nat} : strV a = strV b ↔ a = b := by
  constructor
  · intro h
    have := congrArg (fun s : Str => s.cps.toList) h
    simpa [strV] using this
  · intro h; rw [h]
theorem strV_beq (a b : List Nat) : (strV a == strV b) = (a == b) := by
  rw [Bool.eq_iff_iff]
  simp [strV_inj]
mutual
theorem toPy_eqv : ∀ (x y : D), x.plain = true → y.plain = true → PyData.eqv (toPy x) (toPy y) = x.eqv y
  | .non, y, _, hy => by cases y <;> first | rfl | (cases hy)
  | .bl a, y, _, hy => by cases y <;> first | rfl | (cases hy)
  | .int i, y, _, hy => by cases y <;> first | rfl | (cases hy)
  | .str x, y, _, hy => by
    cases y with
    | str y => simp only [toPy, PyData.eqv, D.eqv]; exact strV_beq x y
    | ins _ _ => cases hy
    | dK _ _ => cases hy
    | dT _ _ => cases hy
    | _ => rfl
  | .tup xs, y, hx, hy => by
    cases y with
    | tup ys => simp only [toPy, PyData.eqv, D.eqv]; exact toPys_eqv xs ys hx hy
    | ins _ _ => cases hy
    | dK _ _ => cases hy
    | dT _ _ => cases hy
    | _ => rfl
  | .lst xs, y, hx, hy => by
    cases y with
    | lst ys => simp only [toPy, PyData.eqv, D.eqv]; exact toPys_eqv xs ys hx hy
    | ins _ _ => cases hy
    | dK _ _ => cases hy
    | dT _ _ => cases hy
    | _ => rfl
  | .ins _ _, _, h, _ => by cases h
  | .dK _ _, _, h, _ => by cases h
  | .dT _ _, _, h, _ => by cases h
theorem toPys_eqv : ∀ (xs ys : List D), D.plains xs = true → D.plains ys = true → PyData.eqvAll (toPys xs) (toPys ys) = D.eqvs xs ys
  | [], [], _, _ => rfl
  | [], _ :: _, _, _ => rfl
  | _ :: _, [], _, _ => rfl
  | x :: r, y :: s, hx, hy => by
    simp only [D.plains, Bool.and_eq_true] at hx hy
    simp only [toPys, PyData.eqvAll, D.eqvs, toPy_eqv x y hx.1 hy.1, toPys_eqv r s hx.2 hy.2]
end
section
variable {T : Tx} {F : Hp}
mutual
theorem RD.dp : ∀ {v : V} {x : D}, RD T F v x → x.plain = true → Dp T.K F v (toPy x)
  | _, _, .non, _ => .non
  | _, _, .bl b, _ => .bl b
  | _, _, .int i, _ => .int i
  | _, _, .str cs, _ => .str _
  | _, _, .tup h r, e => by simp only [toPy]; exact .tup (.of h) (RDs.dp r e)
  | _, _, .lst h r, e => by simp only [toPy]; exact .lst (.inl h) (RDs.dp r e)
  | _, _, .ins _ _ _, e => by cases e
  | _, _, .dK _ _ _, e => by cases e
  | _, _, .dT _ _ _, e => by cases e
theorem RDs.dp : ∀ {vs : List V} {xs : List D}, RDs T F vs xs → D.plains xs = true → DpAll T.K F vs (toPys xs)
  | _, _, .nil, _ => .nil
  | _, _, .cons h r, e => by
    simp only [D.plains, Bool.and_eq_true] at e
    exact .cons (RD.dp h e.1) (RDs.dp r e.2)
end
mutual
theorem RK.dp {K : PySem.W.Frag} : ∀ {v : V} {x : D}, RK K v x → Dp K F v (toPy x)
  | _, _, .non => .non
  | _, _, .bl b => .bl b
  | _, _, .int i => .int i
  | _, _, .str cs => .str _
  | _, _, .tup h r => by simp only [toPy]; exact .tup (h F) (RKs.dp r)
theorem RKs.dp {K : PySem.W.Frag} : ∀ {vs : List V} {xs : List D}, RKs K vs xs → DpAll K F vs (toPys xs)
  | _, _, .nil => .nil
  | _, _, .cons h r => .cons (RK.dp h) (RKs.dp r)
end
end
end Cn

namespace Cn
open PySem PySem.Spec PyProof.Rows L2

theorem line_eq : sizeLine = line := rfl
section
variable {T : Tx} {xt : Xt} {F : Hp} {ρ : Ro} {H : Hp} {m : Mu} {Q : VK}
abbrev KV1 (T : Tx) (Q : VK) : Hp → Ro → Hp → Mu → W → Prop := fun F' ρ' H' _ z => ∀ v, RW T F' ρ' v z → Q v H'
/-- a value that needs nothing new -/
theorem fin_old {x : W} {v : V} {e : XK} (A : After T xt F ρ (.ok x m) (KV1 T Q) e) (R : Rel T F ρ H m) (h : RW T F ρ v x) : Q v H := A F ρ H R Le.rfl' .rfl' v h
/-- a new tuple, a new list of data -/
theorem fin_tup {xs : List D} {vs : List V} {p : Addr} {e : XK} (A : After T xt F ρ (.ok (.d (.tup xs)) m) (KV1 T Q) e) (R : Rel T F ρ H m) (h : RDs T F vs xs) (n : H p = none) : Q (.ref p) (upd H p (.tup vs)) :=
  A _ ρ _ (R.grow n) (Le.new (R.sub.none n)) .rfl' _ (RD.tup upd_same (h.mono (Le.new (R.sub.none n))))
theorem fin_lst {xs : List D} {vs : List V} {p : Addr} {e : XK} (A : After T xt F ρ (.ok (.d (.lst xs)) m) (KV1 T Q) e) (R : Rel T F ρ H m) (h : RDs T F vs xs) (n : H p = none) : Q (.ref p) (upd H p (.lst vs)) :=
  A _ ρ _ (R.grow n) (Le.new (R.sub.none n)) .rfl' _ (RD.lst (.inl upd_same) (h.mono (Le.new (R.sub.none n))))
/-- a new object -/
theorem fin_obj {o : Fo} {ho : HO} {p : Addr} {e : XK} (A : After T xt F ρ (newR m (.o o)) (KV1 T Q) e) (R : Rel T F ρ H m) (h : RF T F o ho) (n : H p = none) : Q (.ref p) (upd H p ho) :=
  A _ (ρ ++ [(p, [])]) _ (R.alloc n h) Le.rfl' RoLe.snoc _ ⟨(p, []), by rw [← R.len, List.getElem?_append_right (Nat.le_refl _)]; simp, rfl⟩
theorem guard_ok {α : Type} {c : Bool} {r : Res α} {k : Hp → Ro → Hp → Mu → α → Prop} {e : XK} (A : After T xt F ρ (guardR c r) k e) : c = true ∧ After T xt F ρ r k e := by
  cases c with
  | true => exact ⟨rfl, A⟩
  | false => exact A.elim
theorem dec_and {a b : Bool} (h : (a && b) = true) : a = true ∧ b = true := Bool.and_eq_true_iff.mp h
theorem RDs.nilV {vs : List V} (h : RDs T F vs []) : vs = [] := by cases h; rfl
theorem RDs.nil_iff {vs : List V} {xs : List D} (h : RDs T F vs xs) : vs = [] ↔ xs = [] := by cases h <;> simp
/-- what the data reads as: a list, a tuple -/
theorem RD.seqT {v : V} {xs : List D} (h : RD T F v (.tup xs)) : ∃ a vs, v = .ref a ∧ F a = some (.tup vs) ∧ RDs T F vs xs := by
  cases h with
  | tup a b => exact ⟨_, _, rfl, a, b⟩
theorem RD.seqL {v : V} {xs : List D} (h : RD T F v (.lst xs)) : ∃ a vs, v = .ref a ∧ Rd F a (.lst vs) ∧ RDs T F vs xs := by
  cases h with
  | lst a b => exact ⟨_, _, rfl, a, b⟩
theorem RD.intV {v : V} {i : Int} (h : RD T F v (.int i)) : v = .int i := by cases h; rfl
theorem RD.blV {v : V} {b : Bool} (h : RD T F v (.bl b)) : v = .bl b := by cases h; rfl
theorem RD.strV' {v : V} {cs : List Nat} (h : RD T F v (.str cs)) : v = .str (strV cs) := by cases h; rfl
theorem RD.nonV {v : V} (h : RD T F v .non) : v = .non := by cases h; rfl
theorem strV_len (cs : List Nat) : (strV cs).length = cs.length := by simp [strV, Str.length]
theorem strV_app (a b : List Nat) : strV a ++ strV b = strV (a ++ b) := by
  show (⟨_⟩ : Str) = _
  simp [strV]
end

section
variable {T : Tx} {xt : Xt} {X : Cx}
/-- list + list, whatever they are -/
theorem cat_lists {pins : List (Addr × Obj)} {s : Shared} {σ : L2.St} {H : Hp} {a b : Addr} {xs ys : List V} {Q : VK} (I : Inv X pins σ H s) (ha : Rd H a (.lst xs)) (hb : Rd H b (.lst ys)) (hz : xs.length + ys.length ≤ sizeLine)
    (q : ∀ p, H p = none → Q (.ref p) (upd H p (.lst (xs ++ ys)))) : wpAny (model X.prog X.w) X.A (binaryOp .Add (.ref a) (.ref b)) (EP X pins σ Q) X.xe s := by
  obtain ⟨z, its, n, r, e⟩ := ha.ok I.hok
  obtain ⟨z2, its2, n2, r2, e2⟩ := hb.ok I.hok
  have h1 := r.length
  have h2 := r2.length
  refine PySem.P.add_list e e2 ?_ (by rw [List.size_toArray, List.size_toArray]; omega)
  have ea : its.toArray ++ its2.toArray = (its ++ its2).toArray := by simp
  rw [ea]
  exact ⟨.ref _, _, I.lnew (t' := s.toks) (r.append r2) (by rw [List.length_append]; omega), rfl, q _ I.fresh⟩
theorem op_add' (hK : X.K = T.K) : OpR X (binaryOp .Add) (r2 T xt addR) := by
  rintro pins s σ H x y v u Q I rx ry ⟨F, ρ, m, w, u', R, hx, hy, A⟩
  unfold addR at A
  split at A
  · rw [RD.intV hx] at rx
    rw [RD.intV hy] at ry
    exact op_add pins s σ H _ _ v u Q I rx ry ⟨_, _, rfl, rfl, fin_old A R (.int _)⟩
  · obtain ⟨g, A⟩ := guard_ok A
    rw [RD.strV' hx] at rx
    rw [RD.strV' hy] at ry
    refine op_add_str pins s σ H _ _ v u Q I rx ry ⟨_, _, rfl, rfl, ?_, ?_⟩
    · rw [strV_len, strV_len]
      exact of_decide_eq_true g
    · rw [strV_app]
      exact fin_old A R (.str _)
  · obtain ⟨g, A⟩ := guard_ok A
    obtain ⟨a, vs, rfl, ha, h1⟩ := RD.seqT hx
    obtain ⟨b, us, rfl, hb, h2⟩ := RD.seqT hy
    have l1 := h1.length
    have l2 := h2.length
    have z := of_decide_eq_true g
    refine op_catA pins s σ H _ _ v u Q I rx ry ⟨a, b, vs, us, rfl, rfl, .of (R.sub _ _ ha), .of (R.sub _ _ hb), by rw [l1, l2]; exact z, fun e => ?_, fun e1 e2 => ?_, fun _ _ p n => ?_⟩
    · have ex := h1.nil_iff.mp e
      subst ex
      exact fin_old A R (.tup hb h2)
    · have ey := h2.nil_iff.mp e2
      subst ey
      rw [List.append_nil] at A
      exact fin_old A R (.tup ha h1)
    · exact fin_tup A R (h1.append h2) n
  · obtain ⟨g, A⟩ := guard_ok A
    obtain ⟨g1, g3⟩ := dec_and g
    obtain ⟨g1, g2⟩ := dec_and g1
    obtain ⟨a, vs, rfl, ha, h1⟩ := RD.seqT hx
    cases hy with
    | @tup b us _ hb h2 =>
      have l1 := h1.length
      have l2 := h2.length
      have z := of_decide_eq_true g1
      have h3 : RDs T F us _ := h2.atoms g2
      refine op_catA pins s σ H _ _ v u Q I rx ry ⟨a, b, vs, us, rfl, rfl, .of (R.sub _ _ ha), by rw [hK]; exact hb H, by rw [l1, l2]; exact z, fun e => ?_, fun e1 e2 => ?_, fun _ _ p n => ?_⟩
      · have ex := h1.nil_iff.mp e
        subst ex
        cases g3
      · have ey := h3.nil_iff.mp e2
        subst ey
        rw [List.append_nil] at A
        exact fin_old A R (.tup ha h1)
      · exact fin_tup A R (h1.append h3) n
  · obtain ⟨g, A⟩ := guard_ok A
    obtain ⟨a, vs, rfl, ha, h1⟩ := RD.seqL hx
    obtain ⟨b, us, rfl, hb, h2⟩ := RD.seqL hy
    have z := of_decide_eq_true g
    have l1 := h1.length
    have l2 := h2.length
    cases rx
    cases ry
    exact cat_lists I (R.sub.rd ha) (R.sub.rd hb) (by rw [l1, l2]; exact z) fun p n => fin_lst A R (h1.append h2) n
  · exact A.elim
theorem op_sub' : OpR X (binaryOp .Sub) (r2 T xt subR) := by
  rintro pins s σ H x y v u Q I rx ry ⟨F, ρ, m, w, u', R, hx, hy, A⟩
  unfold subR at A
  split at A
  · rw [RD.intV hx] at rx
    rw [RD.intV hy] at ry
    exact op_sub pins s σ H _ _ v u Q I rx ry ⟨_, _, rfl, rfl, fin_old A R (.int _)⟩
  · exact A.elim
theorem op_fdiv' : OpR X (binaryOp .FloorDiv) (r2 T xt fdivR) := by
  rintro pins s σ H x y v u Q I rx ry ⟨F, ρ, m, w, u', R, hx, hy, A⟩
  unfold fdivR at A
  split at A
  · obtain ⟨g, A⟩ := guard_ok A
    obtain ⟨g1, g2⟩ := dec_and g
    rw [RD.intV hx] at rx
    rw [RD.intV hy] at ry
    exact op_fdiv pins s σ H _ _ v u Q I rx ry ⟨_, _, rfl, rfl, ⟨of_decide_eq_true g1, of_decide_eq_true g2⟩, fin_old A R (.int _)⟩
  · exact A.elim
theorem op_mod' : OpR X (binaryOp .Mod) (r2 T xt modR) := by
  rintro pins s σ H x y v u Q I rx ry ⟨F, ρ, m, w, u', R, hx, hy, A⟩
  unfold modR at A
  split at A
  · obtain ⟨g, A⟩ := guard_ok A
    rw [RD.intV hx] at rx
    rw [RD.intV hy] at ry
    exact op_mod pins s σ H _ _ v u Q I rx ry ⟨_, _, rfl, rfl, of_decide_eq_true g, fin_old A R (.int _)⟩
  · exact A.elim
open PySem.SeqRoads2 PySem.MeetsSeq PySem.SeqAt in
theorem tuple_mul1 (l : Addr) (items : Array Value) (n : Nat) (dd : Option Addr) (sl : Array (Option Value)) (x : Int) (u : Tok) (c0 : (decide (x < -(2 ^ 63)) || decide (x ≥ 2 ^ 63)) = false) (c1 : (items.isEmpty || x == 1) = true) :
    Meets (Builtin.«tuple.__mul__» ⟨[.ref l, .int x u], []⟩) (fun _ R s => s.heap.get? l = some { cls := .type "tuple", dict := dd, data := .seq items n, slots := sl } ∧ R (.ok (.ret (Value.ref l))) s) :=
  .of_wp fun prog w A R s h => by
    obtain ⟨hp, g, d, tk, os⟩ := s
    obtain ⟨hl, h⟩ := h
    have f1 := AutoSeq1.idx_int
    wp_walk using AutoSeq1.wpAny_loadPart' hl
    repeat (first
      | (refine wpAny_ite_false (decide_eq_false (by rw [c0]; exact Bool.false_ne_true)) ?_; wp_walk using AutoSeq1.wpAny_loadPart' hl)
      | (refine wpAny_ite_true (decide_eq_true (by rw [c1])) ?_; wp_walk using AutoSeq1.wpAny_loadPart' hl))
    exact ⟨_, rfl, h⟩
open PySem.SeqRoads2 PySem.MeetsSeq PySem.SeqAt in
theorem tuple_mul0 (l : Addr) (items : Array Value) (n : Nat) (dd : Option Addr) (sl : Array (Option Value)) (x : Int) (u : Tok) (c0 : (decide (x < -(2 ^ 63)) || decide (x ≥ 2 ^ 63)) = false) (c1 : (items.isEmpty || x == 1) = false) (c2 : (decide (x ≤ 0) || items.isEmpty) = true) :
    Meets (Builtin.«tuple.__mul__» ⟨[.ref l, .int x u], []⟩) (fun _ R s => s.heap.get? l = some { cls := .type "tuple", dict := dd, data := .seq items n, slots := sl } ∧
      R (.ok (.ret (Value.ref s.heap.objs.size))) { s with heap := s.heap.push { cls := Value.type "tuple", data := Data.seq #[] }, toks := s.toks }) :=
  .of_wp fun prog w A R s h => by
    obtain ⟨hp, g, d, tk, os⟩ := s
    obtain ⟨hl, h⟩ := h
    have f1 := AutoSeq1.idx_int
    wp_walk using AutoSeq1.wpAny_loadPart' hl
    repeat (first
      | (refine wpAny_ite_false (decide_eq_false (by rw [c0]; exact Bool.false_ne_true)) ?_; wp_walk using AutoSeq1.wpAny_loadPart' hl)
      | (refine wpAny_ite_false (decide_eq_false (by rw [c1]; exact Bool.false_ne_true)) ?_; wp_walk using AutoSeq1.wpAny_loadPart' hl)
      | (refine wpAny_ite_true (decide_eq_true (by rw [c2])) ?_; wp_walk using AutoSeq1.wpAny_loadPart' hl))
    exact ⟨_, rfl, h⟩
/-- tuple * int, from 0 on -/
theorem rep_tup {pins : List (Addr × Obj)} {s : Shared} {σ : L2.St} {H : Hp} {l : Addr} {k : Int} {t : Tok} {xs : List V} {Q : VK} (I : Inv X pins σ H s) (hT : SqT X.K H l xs) (h0 : 0 ≤ k) (h2 : k < 1000) (hz : xs.length ≤ 1000)
    (q1 : (List.replicate k.toNat xs).flatten = xs → Q (.ref l) H) (q : ∀ p, H p = none → Q (.ref p) (upd H p (.tup (List.replicate k.toNat xs).flatten))) :
    wpAny (model X.prog X.w) X.A (binaryOp .Mult (.ref l) (.int k t)) (EP X pins σ Q) X.xe s := by
  by_cases hne : xs = []
  · -- the same object
    subst hne
    obtain ⟨its, r, ⟨⟨cls, dd, data, sl⟩, ho, hc, n, hd⟩, hs⟩ := I.tuple hT
    simp only at hc hd
    subst hc hd
    cases r
    have c0 : (decide (k < -(2 ^ 63)) || decide (k ≥ 2 ^ 63)) = false := by
      rw [decide_eq_false (by omega), decide_eq_false (by omega)] <;> rfl
    have c1 : (([] : List Value).toArray.isEmpty || k == 1) = true := rfl
    refine wpAny_binaryOp_repeat_ref (T := "tuple") (U := "int") (by decide) ⟨_, ho, rfl⟩ (fun s' => typeIs_int s' k t) noFill_tuple_mul F.fills_int_mul F.slot_int_rmul repeat_tuple F.slot_int_index.lookup
      (call_meets F.slot_int_rmul (typeIs_int s k t) F.entry_int_rmul (F.args_int_rmul_2 _ _) (int_rmul_tuple k t l _ n dd sl)
        ⟨ho, rfl, ⟨_, ho, rfl⟩, call_meets F.slot_tuple_mul ⟨_, ho, rfl⟩ F.entry_tuple_mul (F.args_tuple_mul_2 _ _) (tuple_mul1 l _ n dd sl k t c0 c1) ⟨ho, ?_⟩⟩)
    exact ⟨.ref l, H, I, rfl, q1 (by simp)⟩
  · by_cases hk : 2 ≤ k
    · exact op_repT pins s σ H (.ref l) (.int k) _ _ Q I rfl ⟨t, rfl⟩ ⟨l, k, xs, rfl, rfl, hT, hne, hk, by omega, hz, q⟩
    · obtain ⟨its, r, ⟨⟨cls, dd, data, sl⟩, ho, hc, n, hd⟩, hs⟩ := I.tuple hT
      simp only at hc hd
      subst hc hd
      have hle : its.length = xs.length := r.length.symm
      have hn : its ≠ [] := fun e => hne (by
        rw [e] at hle
        exact List.eq_nil_of_length_eq_zero hle.symm)
      have hi : its.toArray.isEmpty = false := by
        cases its with
        | nil => exact absurd rfl hn
        | cons a b => rfl
      have c0 : (decide (k < -(2 ^ 63)) || decide (k ≥ 2 ^ 63)) = false := by
        rw [decide_eq_false (by omega), decide_eq_false (by omega)] <;> rfl
      by_cases hk1 : k = 1
      · subst hk1
        have c1 : (its.toArray.isEmpty || (1 : Int) == 1) = true := by rw [hi]; rfl
        refine wpAny_binaryOp_repeat_ref (T := "tuple") (U := "int") (by decide) ⟨_, ho, rfl⟩ (fun s' => typeIs_int s' 1 t) noFill_tuple_mul F.fills_int_mul F.slot_int_rmul repeat_tuple F.slot_int_index.lookup
          (call_meets F.slot_int_rmul (typeIs_int s 1 t) F.entry_int_rmul (F.args_int_rmul_2 _ _) (int_rmul_tuple 1 t l _ n dd sl)
            ⟨ho, rfl, ⟨_, ho, rfl⟩, call_meets F.slot_tuple_mul ⟨_, ho, rfl⟩ F.entry_tuple_mul (F.args_tuple_mul_2 _ _) (tuple_mul1 l _ n dd sl 1 t c0 c1) ⟨ho, ?_⟩⟩)
        exact ⟨.ref l, H, I, rfl, q1 (by simp)⟩
      · have hk0 : k = 0 := by omega
        subst hk0
        have c1 : (its.toArray.isEmpty || (0 : Int) == 1) = false := by rw [hi]; rfl
        have c2 : (decide ((0 : Int) ≤ 0) || its.toArray.isEmpty) = true := rfl
        refine wpAny_binaryOp_repeat_ref (T := "tuple") (U := "int") (by decide) ⟨_, ho, rfl⟩ (fun s' => typeIs_int s' 0 t) noFill_tuple_mul F.fills_int_mul F.slot_int_rmul repeat_tuple F.slot_int_index.lookup
          (call_meets F.slot_int_rmul (typeIs_int s 0 t) F.entry_int_rmul (F.args_int_rmul_2 _ _) (int_rmul_tuple 0 t l _ n dd sl)
            ⟨ho, rfl, ⟨_, ho, rfl⟩, call_meets F.slot_tuple_mul ⟨_, ho, rfl⟩ F.entry_tuple_mul (F.args_tuple_mul_2 _ _) (tuple_mul0 l _ n dd sl 0 t c0 c1 c2) ⟨ho, ?_⟩⟩)
        refine ⟨.ref s.heap.objs.size, _, I.laid (t' := s.toks) (o := .tup (List.replicate (0 : Int).toNat xs).flatten) (fun b ob q => Heap.get?_push_of_some _ q) (Nat.le_refl _) ?_, rfl, q _ (I.hok.fresh (Nat.le_refl _))⟩
        exact ⟨Nat.zero_le _, [], .nil, IsTup.new _ _⟩
/-- list * int, whatever list -/
theorem rep_lst {pins : List (Addr × Obj)} {s : Shared} {σ : L2.St} {H : Hp} {l : Addr} {k : Int} {t : Tok} {xs : List V} {Q : VK} (I : Inv X pins σ H s) (hT : Rd H l (.lst xs)) (h0 : 0 ≤ k) (h2 : k < 1000) (hz : xs.length ≤ 1000)
    (q : ∀ p, H p = none → Q (.ref p) (upd H p (.lst (List.replicate k.toNat xs).flatten))) :
    wpAny (model X.prog X.w) X.A (binaryOp .Mult (.ref l) (.int k t)) (EP X pins σ Q) X.xe s := by
  obtain ⟨z, its, n, r, e⟩ := hT.ok I.hok
  have hl : its.toArray.size = xs.length := by rw [List.size_toArray, r.length]
  have hs : sizeLine = 16777216 := rfl
  have hm : xs.length * k.toNat ≤ 1000 * 1000 := Nat.mul_le_mul hz (by omega)
  have c1 : ¬ its.toArray.size * k.toNat > (2 ^ 63 - 1) / 8 := by rw [hl]; omega
  have c2 : ¬ (!Builtin.List.listFitsIndex k) = true := by rw [fitsIndex_both (by omega) (by omega)]; decide
  have c3 : ¬ Builtin.List.listTooLong (its.toArray.size * k.toNat) = true := by rw [notLongL (by rw [hl]; omega)]; decide
  have hf : List.foldl (fun x1 x2 => x1 ++ x2) #[] (List.replicate (if its.toArray.isEmpty = true then 0 else k.toNat) its.toArray) = (List.replicate k.toNat its).flatten.toArray := by
    cases its with
    | nil => simp
    | cons a b =>
      rw [if_neg (by simp)]
      have := foldl_rep (a :: b) k.toNat []
      rwa [List.nil_append] at this
  have body := AutoListH.list___mul___list_int_3 l its.toArray n k t c2 c1 c3
  refine wpAny_binaryOp_repeat_ref (T := "list") (U := "int") (by decide) ⟨_, e, rfl⟩ (fun s' => typeIs_int s' k t) noFill_list_mul F.fills_int_mul F.slot_int_rmul repeat_list F.slot_int_index.lookup ?_
  refine call_meets F.slot_int_rmul (typeIs_int s k t) F.entry_int_rmul (F.args_int_rmul_2 _ _) (int___rmul___int_list k t l its.toArray n) ⟨e, rfl, ⟨_, e, rfl⟩, ?_⟩
  refine call_meets F.slot_list_mul ⟨_, e, rfl⟩ F.entry_list_mul (F.args_list_mul_2 _ _) body ⟨e, ?_⟩
  rw [hf]
  exact ⟨.ref _, _, I.lnew (t' := s.toks) (r.rep k.toNat) (by rw [PyProof.Rows.lm_len_rep_flat, Nat.mul_comm]; omega), rfl, q _ I.fresh⟩
theorem op_mul' (hK : X.K = T.K) : OpR X (binaryOp .Mult) (r2 T xt mulR) := by
  rintro pins s σ H x y v u Q I rx ry ⟨F, ρ, m, w, u', R, hx, hy, A⟩
  unfold mulR at A
  split at A
  · obtain ⟨g, A⟩ := guard_ok A
    obtain ⟨g1, g2⟩ := dec_and g
    rw [RD.intV hx] at rx
    rw [RD.intV hy] at ry
    exact op_mul pins s σ H _ _ v u Q I rx ry ⟨_, _, rfl, rfl, .inl ⟨of_decide_eq_true g1, of_decide_eq_true g2⟩, fin_old A R (.int _)⟩
  · obtain ⟨g, A⟩ := guard_ok A
    obtain ⟨g1, g3⟩ := dec_and g
    obtain ⟨g1, g2⟩ := dec_and g1
    obtain ⟨a, vs, rfl, ha, h1⟩ := RD.seqT hx
    rw [RD.intV hy] at ry
    obtain ⟨t, rfl⟩ := ry
    cases rx
    refine rep_tup I (.of (R.sub _ _ ha)) (of_decide_eq_true g1) (of_decide_eq_true g2) (by rw [h1.length]; exact of_decide_eq_true g3) (fun e => ?_) fun p n => fin_tup A R (h1.rep _) n
    refine fin_old A R (.tup ha ?_)
    have h2 := h1.rep (Int.toNat ‹Int›)
    rw [e] at h2
    exact h2
  · obtain ⟨g, A⟩ := guard_ok A
    obtain ⟨g1, g3⟩ := dec_and g
    obtain ⟨g1, g2⟩ := dec_and g1
    obtain ⟨a, vs, rfl, ha, h1⟩ := RD.seqL hx
    rw [RD.intV hy] at ry
    obtain ⟨t, rfl⟩ := ry
    cases rx
    exact rep_lst I (R.sub.rd ha) (of_decide_eq_true g1) (of_decide_eq_true g2) (by rw [h1.length]; exact of_decide_eq_true g3) fun p n => fin_lst A R (h1.rep _) n
  · exact A.elim
end
end Cn

namespace Cn
open PySem PySem.Spec PyProof.Rows L2

section
variable {T : Tx} {xt : Xt} {F : Hp} {ρ : Ro} {H : Hp} {m : Mu} {Q : VK}
theorem allU_rds {as : List Addr} : ∀ {us : List U} {vs : List V} {xs : List D}, RUs T F as vs us → allU us = some xs → RDs T F vs xs
  | [], _, _, .nil, e => by cases e; exact .nil
  | .d x :: r, _, _, .cons h t, e => by
    unfold allU at e
    split at e
    · rename_i ys q
      cases e
      exact .cons h (allU_rds t q)
    · cases e
  | .i _ :: r, _, _, .cons h t, e => by cases e
theorem Rel.at (R : Rel T F ρ H m) {n : Nat} {p : Addr × List Addr} {g : Gr} (e : ρ[n]? = some p) (q : m[n]? = some (some g)) : ∃ ow, RG T F H ow n p g := by
  obtain ⟨ow, h⟩ := R.ex
  exact ⟨ow, h n p g e q⟩
theorem Rel.roI (R : Rel T F ρ H m) {n f : Nat} {a : Addr} {g : Gr} {o : Fo} (e : roI ρ n f = some a) (q : m[n]? = some (some g)) (qf : g.inn[f]? = some (some o)) : ∃ p u, ρ[n]? = some p ∧ p.2[f]? = some a ∧ H a = some u ∧ RF T F o u ∧ F a = none := by
  unfold Cn.roI at e
  cases z : ρ[n]? with
  | none => rw [z] at e; cases e
  | some p =>
    rw [z] at e
    obtain ⟨ow, h⟩ := R.at z q
    obtain ⟨_, h2, u, h3, h4⟩ := h.inn f a o e qf
    exact ⟨p, u, rfl, e, h3, h4, h2⟩
/-- a list that may change: what it holds -/
theorem Rel.lstD (R : Rel T F ρ H m) {p : Addr × List Addr} {n : Nat} {r : Ob} {xs : List D} (e : ρ[n]? = some p) (hr : rootAt m n = some r) (hl : r.lstD = some xs) : ∃ vs, H p.1 = some (.lst vs) ∧ RDs T F vs xs := by
  obtain ⟨g, hg, rfl⟩ := rootAt_some hr
  obtain ⟨ow, h⟩ := R.at e hg
  obtain ⟨o, h1, h2⟩ := h.root
  cases hq : g.root with
  | lst us =>
    rw [hq] at hl h2
    obtain ⟨vs, rfl, h3⟩ := h2
    exact ⟨vs, h1, allU_rds h3 hl⟩
  | ins c us => rw [hq] at hl; cases hl
  | o f =>
    rw [hq] at hl h2
    cases f with
    | lst ys =>
      cases hl
      obtain ⟨vs, rfl, h3⟩ := h2
      exact ⟨vs, h1, h3⟩
    | dK _ _ => cases hl
    | dT _ _ => cases hl
/-- what is to be read of a value -/
theorem Rel.rdH (R : Rel T F ρ H m) {v : V} {w : W} {x : D} (hw : RW T F ρ v w) (e : rd m w = some x) : RD T H v x ∨ RK T.K v x := by
  cases w with
  | d y => cases e; exact .inl (RD.mono R.sub hw)
  | kt y => cases e; exact .inr hw
  | h n =>
    obtain ⟨p, e1, rfl⟩ := hw
    simp only [rd] at e
    split at e
    · rename_i r hr
      split at e
      · rename_i xs hl
        cases e
        obtain ⟨vs, h1, h2⟩ := R.lstD e1 hr hl
        exact .inl (.lst (.inl h1) (h2.mono R.sub))
      · cases e
    · cases e
  | hi n f =>
    obtain ⟨a, e1, rfl⟩ := hw
    simp only [rd] at e
    split at e
    · rename_i xs hx
      cases e
      obtain ⟨g, hg, hf⟩ := inAt_some hx
      obtain ⟨p, u, _, _, h1, ⟨vs, rfl, h2⟩, _⟩ := R.roI e1 hg hf
      exact .inl (.lst (.inl h1) (h2.mono R.sub))
    · cases e
  | clo _ _ => cases e
theorem Rel.rdDp (R : Rel T F ρ H m) {v : V} {w : W} {x : D} (hw : RW T F ρ v w) (e : rd m w = some x) (hp : x.plain = true) : Dp T.K H v (toPy x) := by
  rcases R.rdH hw e with h | h
  · exact h.dp hp
  · exact h.dp
end
theorem any_eqv {x : D} (hx : x.plain = true) : ∀ {ys : List D}, D.plains ys = true → ((toPys ys).any fun y => PyData.eqv y (toPy x)) = ys.any fun y => y.eqv x
  | [], _ => rfl
  | y :: r, h => by
    simp only [D.plains, Bool.and_eq_true] at h
    simp only [toPys, List.any_cons, toPy_eqv y x h.1 hx, any_eqv hx h.2]

section
variable {T : Tx} {xt : Xt} {X : Cx}
abbrev r2B (T : Tx) (xt : Xt) (f : Mu → W → W → Res Bool) : R2 := r2 T xt fun m a b => blR (f m a b)
theorem ok_bl {F : Hp} {ρ : Ro} {H : Hp} {m : Mu} {Q : VK} {b : Bool} {e : XK} (A : After T xt F ρ (blR (.ok b m)) (KV1 T Q) e) (R : Rel T F ρ H m) : Q (.bl b) H := fin_old A R (.bl b)
theorem ordR' {op : CmpOp} {p : Int → Int → Bool} (hop : OpR X (compareOp op) (rI0 fun i j => .bl (p i j))) : OpR X (compareOp op) (r2B T xt fun m => ordR m p) := by
  rintro pins s σ H x y v u Q I rx ry ⟨F, ρ, m, w, u', R, hx, hy, A⟩
  replace A : After T xt F ρ (blR (ordR m p w u')) (KV1 T Q) (fun _ _ _ => True) := A
  unfold ordR at A
  split at A
  · rw [RD.intV hx] at rx
    rw [RD.intV hy] at ry
    exact hop pins s σ H _ _ v u Q I rx ry ⟨_, _, rfl, rfl, ok_bl A R⟩
  · exact A.elim
theorem eqR_cases (m : Mu) (w u : W) : eqR m w u = .stuck ∨ ∃ a b, rd m w = some a ∧ rd m u = some b ∧ a.plain = true ∧ b.plain = true ∧ min a.depth b.depth ≤ 64 ∧ eqR m w u = .ok (a.eqv b) m := by
  unfold eqR
  split
  · rename_i a b ea eb
    cases q : (a.plain && b.plain && decide (min a.depth b.depth ≤ 64)) with
    | true =>
      obtain ⟨g1, g3⟩ := dec_and q
      obtain ⟨g1, g2⟩ := dec_and g1
      exact .inr ⟨a, b, ea, eb, g1, g2, of_decide_eq_true g3, rfl⟩
    | false => exact .inl rfl
  · exact .inl rfl
theorem eqR_reads {pins : List (Addr × Obj)} {s : Shared} {σ : L2.St} {H : Hp} {x y : V} {v u : Value} {F : Hp} {ρ : Ro} {m : Mu} {w w' : W} {a b : D} (hK : X.K = T.K) (hu : X.A.units + 66 < cLine) (I : Inv X pins σ H s) (rx : RelV x v) (ry : RelV y u)
    (R : Rel T F ρ H m) (hx : RW T F ρ x w) (hy : RW T F ρ y w') (ea : rd m w = some a) (eb : rd m w' = some b) (g1 : a.plain = true) (g2 : b.plain = true) (g3 : min a.depth b.depth ≤ 64) :
    ∃ as bs, Reads s.heap v (toPy a) as ∧ Reads s.heap u (toPy b) bs ∧ X.A.units + min (toPy a).depth (toPy b).depth < cLine := by
  have d1 := R.rdDp hx ea g1
  have d2 := R.rdDp hy eb g2
  rw [← hK] at d1 d2
  obtain ⟨as, q1⟩ := Dp.reads I _ _ _ d1 rx
  obtain ⟨bs, q2⟩ := Dp.reads I _ _ _ d2 ry
  exact ⟨as, bs, q1, q2, by rw [toPy_depth, toPy_depth]; omega⟩
theorem op_eq' (hK : X.K = T.K) (hu : X.A.units + 66 < cLine) : OpR X (compareOp .Eq) (r2B T xt eqR) := by
  rintro pins s σ H x y v u Q I rx ry ⟨F, ρ, m, w, u', R, hx, hy, A⟩
  replace A : After T xt F ρ (blR (eqR m w u')) (KV1 T Q) (fun _ _ _ => True) := A
  rcases eqR_cases m w u' with e | ⟨a, b, ea, eb, g1, g2, g3, e⟩ <;> rw [e] at A
  · exact A.elim
  · obtain ⟨as, bs, q1, q2, hd⟩ := eqR_reads hK hu I rx ry R hx hy ea eb g1 g2 g3
    refine SeqAt.eq_plain q1 q2 (toPy_plain _) (toPy_plain _) hd ?_
    rw [toPy_eqv _ _ g1 g2]
    exact ⟨.bl _, H, I, rfl, ok_bl A R⟩
theorem op_ne' (hK : X.K = T.K) (hu : X.A.units + 66 < cLine) : OpR X (compareOp .NotEq) (r2B T xt fun m a b => notR (eqR m a b)) := by
  rintro pins s σ H x y v u Q I rx ry ⟨F, ρ, m, w, u', R, hx, hy, A⟩
  replace A : After T xt F ρ (blR (notR (eqR m w u'))) (KV1 T Q) (fun _ _ _ => True) := A
  rcases eqR_cases m w u' with e | ⟨a, b, ea, eb, g1, g2, g3, e⟩ <;> rw [e] at A
  · exact A.elim
  · obtain ⟨as, bs, q1, q2, hd⟩ := eqR_reads hK hu I rx ry R hx hy ea eb g1 g2 g3
    refine SeqAt.ne_plain q1 q2 (toPy_plain _) (toPy_plain _) hd ?_
    rw [toPy_eqv _ _ g1 g2]
    exact ⟨.bl _, H, I, rfl, ok_bl A R⟩
def isNonD : D → Bool
  | .non => true
  | _ => false
theorem isNR_cases (m : Mu) (w u : W) : isNR m w u = .stuck ∨ u = .d .non ∧ ∃ x, w = .d x ∧ isNR m w u = .ok (isNonD x) m := by
  unfold isNR
  split
  · unfold noneR
    split
    · exact .inr ⟨rfl, _, rfl, rfl⟩
    · rename_i y h
      refine .inr ⟨rfl, y, rfl, ?_⟩
      cases y <;> first | rfl | exact absurd rfl h
    · exact .inl rfl
  · exact .inl rfl
theorem non_dec {F : Hp} {x : V} {y : D} (h : RD T F x y) : decide (x = V.non) = isNonD y := by
  cases h <;> simp [isNonD]
theorem op_is' : OpR X (compareOp .Is) (r2B T xt isNR) := by
  rintro pins s σ H x y v u Q I rx ry ⟨F, ρ, m, w, u', R, hx, hy, A⟩
  replace A : After T xt F ρ (blR (isNR m w u')) (KV1 T Q) (fun _ _ _ => True) := A
  rcases isNR_cases m w u' with e | ⟨rfl, z, rfl, e⟩ <;> rw [e] at A
  · exact A.elim
  · exact op_isN pins s σ H x y v u Q I rx ry ⟨RD.nonV hy, by rw [non_dec hx]; exact ok_bl A R⟩
theorem op_isnot' : OpR X (compareOp .IsNot) (r2B T xt fun m a b => notR (isNR m a b)) := by
  rintro pins s σ H x y v u Q I rx ry ⟨F, ρ, m, w, u', R, hx, hy, A⟩
  replace A : After T xt F ρ (blR (notR (isNR m w u'))) (KV1 T Q) (fun _ _ _ => True) := A
  rcases isNR_cases m w u' with e | ⟨rfl, z, rfl, e⟩ <;> rw [e] at A
  · exact A.elim
  · exact op_notN pins s σ H x y v u Q I rx ry ⟨RD.nonV hy, by rw [non_dec hx]; exact ok_bl A R⟩
/-! ### in -/
theorem inSeq_cases (m : Mu) (w u : W) : inSeq m w u = .stuck ∨ ∃ a ys b, rd m w = some a ∧ rd m u = some b ∧ (b = .tup ys ∨ b = .lst ys) ∧ a.plain = true ∧ D.plains ys = true ∧ min (D.depths ys) a.depth ≤ 64 ∧ inSeq m w u = .ok (ys.any fun y => y.eqv a) m := by
  unfold inSeq
  split
  · rename_i a ys ea eb
    cases q : (a.plain && D.plains ys && decide (min (D.depths ys) a.depth ≤ 64)) with
    | true =>
      obtain ⟨g1, g3⟩ := dec_and q
      obtain ⟨g1, g2⟩ := dec_and g1
      exact .inr ⟨a, ys, _, ea, eb, .inl rfl, g1, g2, of_decide_eq_true g3, rfl⟩
    | false => exact .inl rfl
  · rename_i a ys ea eb
    cases q : (a.plain && D.plains ys && decide (min (D.depths ys) a.depth ≤ 64)) with
    | true =>
      obtain ⟨g1, g3⟩ := dec_and q
      obtain ⟨g1, g2⟩ := dec_and g1
      exact .inr ⟨a, ys, _, ea, eb, .inr rfl, g1, g2, of_decide_eq_true g3, rfl⟩
    | false => exact .inl rfl
  · exact .inl rfl
theorem in_reads {pins : List (Addr × Obj)} {s : Shared} {σ : L2.St} {H : Hp} {x y : V} {v u : Value} {F : Hp} {ρ : Ro} {m : Mu} {w w' : W} {a : D} {ys : List D} {b : D} (hK : X.K = T.K) (hu : X.A.units + 66 < cLine) (I : Inv X pins σ H s) (rx : RelV x v) (ry : RelV y u)
    (R : Rel T F ρ H m) (hx : RW T F ρ x w) (hy : RW T F ρ y w') (ea : rd m w = some a) (eb : rd m w' = some b) (hb : b = .tup ys ∨ b = .lst ys) (g1 : a.plain = true) (g2 : D.plains ys = true) (g3 : min (D.depths ys) a.depth ≤ 64) :
    ∃ as bs, Reads s.heap v (toPy a) as ∧ (Reads s.heap u (.tuple (toPys ys)) bs ∨ Reads s.heap u (.list (toPys ys)) bs) ∧ X.A.units + 1 + min (PyData.depthAll (toPys ys)) (toPy a).depth < cLine := by
  have d1 := R.rdDp hx ea g1
  have d2 := R.rdDp hy eb (by rcases hb with rfl | rfl <;> exact g2)
  rw [← hK] at d1 d2
  obtain ⟨as, q1⟩ := Dp.reads I _ _ _ d1 rx
  obtain ⟨bs, q2⟩ := Dp.reads I _ _ _ d2 ry
  refine ⟨as, bs, q1, ?_, by rw [toPy_depth, toPys_depth]; omega⟩
  rcases hb with rfl | rfl
  · exact .inl (by simpa only [toPy] using q2)
  · exact .inr (by simpa only [toPy] using q2)
theorem op_inSeq (hK : X.K = T.K) (hu : X.A.units + 66 < cLine) : OpR X (compareOp .In) (r2B T xt inSeq) := by
  rintro pins s σ H x y v u Q I rx ry ⟨F, ρ, m, w, u', R, hx, hy, A⟩
  replace A : After T xt F ρ (blR (inSeq m w u')) (KV1 T Q) (fun _ _ _ => True) := A
  rcases inSeq_cases m w u' with e | ⟨a, ys, b, ea, eb, hb, g1, g2, g3, e⟩ <;> rw [e] at A
  · exact A.elim
  · obtain ⟨as, bs, q1, q2, hd⟩ := in_reads hK hu I rx ry R hx hy ea eb hb g1 g2 g3
    rcases q2 with q2 | q2
    · refine SeqAt.in_tuple_data q2 q1 (toPys_plain _) (toPy_plain _) hd ?_
      rw [any_eqv g1 g2]
      exact ⟨.bl _, H, I, rfl, ok_bl A R⟩
    · refine SeqAt.in_list_data q2 q1 (toPys_plain _) (toPy_plain _) hd ?_
      rw [any_eqv g1 g2]
      exact ⟨.bl _, H, I, rfl, ok_bl A R⟩
theorem op_ninSeq (hK : X.K = T.K) (hu : X.A.units + 66 < cLine) : OpR X (compareOp .NotIn) (r2B T xt fun m a b => notR (inSeq m a b)) := by
  rintro pins s σ H x y v u Q I rx ry ⟨F, ρ, m, w, u', R, hx, hy, A⟩
  replace A : After T xt F ρ (blR (notR (inSeq m w u'))) (KV1 T Q) (fun _ _ _ => True) := A
  rcases inSeq_cases m w u' with e | ⟨a, ys, b, ea, eb, hb, g1, g2, g3, e⟩ <;> rw [e] at A
  · exact A.elim
  · obtain ⟨as, bs, q1, q2, hd⟩ := in_reads hK hu I rx ry R hx hy ea eb hb g1 g2 g3
    rcases q2 with q2 | q2
    · refine SeqAt.notIn_tuple_data q2 q1 (toPys_plain _) (toPy_plain _) hd ?_
      rw [any_eqv g1 g2]
      exact ⟨.bl _, H, I, rfl, ok_bl A R⟩
    · refine SeqAt.notIn_list_data q2 q1 (toPys_plain _) (toPy_plain _) hd ?_
      rw [any_eqv g1 g2]
      exact ⟨.bl _, H, I, rfl, ok_bl A R⟩
end
end Cn

/-! # an object becomes data -/
namespace Cn
open PySem PySem.Spec PyProof.Rows L2
section
variable {T : Tx} {F F' H : Hp} {ρ : Ro} {m : Mu}
theorem Le.sandwich {F H : Hp} (l : Le F H) (p : Addr → Prop) [DecidablePred p] : Le F (fun a => if p a then H a else F a) ∧ Le (fun a => if p a then H a else F a) H := by
  refine ⟨fun a o e => ?_, fun a o e => ?_⟩
  · show (if p a then H a else F a) = some o
    by_cases h : p a
    · rw [if_pos h]; exact l a o e
    · rw [if_neg h]; exact e
  · have e' : (if p a then H a else F a) = some o := e
    by_cases h : p a
    · rw [if_pos h] at e'; exact e'
    · rw [if_neg h] at e'; exact l a o e'
theorem RF.data {a : Addr} {f : Fo} {o : HO} (h : RF T F f o) (e : F a = some o) : RD T F (.ref a) f.data := by
  cases f with
  | lst xs => obtain ⟨vs, rfl, r⟩ := h; exact .lst (.inl e) r
  | dK ks xs => obtain ⟨vs, rfl, n, r⟩ := h; exact .dK e n r
  | dT ks xs => obtain ⟨vs, rfl, n, r⟩ := h; exact .dT e n r
theorem dataU_rds {as : List Addr} {inn : List (Option Fo)} (hi : ∀ (f : Nat) (b : Addr) (o : Fo), as[f]? = some b → inn[f]? = some (some o) → RD T F (.ref b) o.data) : ∀ {us : List U} {vs : List V} {xs : List D}, RUs T F as vs us → dataU inn us = some xs → RDs T F vs xs
  | [], _, _, .nil, e => by cases e; exact .nil
  | .d x :: r, _, _, .cons h t, e => by
    unfold dataU at e
    split at e
    · rename_i ys q
      cases e
      exact .cons h (dataU_rds hi t q)
    · cases e
  | .i f :: r, _, _, .cons h t, e => by
    unfold dataU at e
    split at e
    · rename_i o qo
      split at e
      · rename_i ys q
        cases e
        obtain ⟨a, e1, rfl⟩ := h
        exact .cons (hi f a o e1 qo) (dataU_rds hi t q)
      · cases e
    · cases e
theorem fzR_cases {m : Mu} {w : W} : fzR m w = .stuck ∨ (∃ x, w = .d x ∧ fzR m w = .ok x m) ∨ (∃ n g x, w = .h n ∧ m[n]? = some (some g) ∧ g.data = some x ∧ fzR m w = .ok x (m.set n none)) ∨
    (∃ n f g o, w = .hi n f ∧ m[n]? = some (some g) ∧ g.inn[f]? = some (some o) ∧ fzR m w = .ok o.data (m.set n (some { g with inn := g.inn.set f none }))) := by
  unfold fzR
  split
  · exact .inr (.inl ⟨_, rfl, rfl⟩)
  · rename_i n
    split
    · rename_i g hg
      split
      · rename_i x hx
        exact .inr (.inr (.inl ⟨_, _, _, rfl, grAt_some hg, hx, rfl⟩))
      · exact .inl rfl
    · exact .inl rfl
  · rename_i n f
    split
    · rename_i o ho
      obtain ⟨g, hg, hf⟩ := inAt_some ho
      have hs : Cn.setIn m n f none = m.set n (some { g with inn := g.inn.set f none }) := by
        unfold Cn.setIn grAt; rw [hg]
      exact .inr (.inr (.inr ⟨_, _, g, o, rfl, hg, hf, by rw [hs]⟩))
    · exact .inl rfl
  · exact .inl rfl
/-- what was an object is data -/
theorem Rel.freeze (R : Rel T F ρ H m) {v : V} {w : W} {x : D} {m' : Mu} (hw : RW T F ρ v w) (e : fzR m w = .ok x m') : ∃ F', Le F F' ∧ Rel T F' ρ H m' ∧ RD T F' v x := by
  classical
  rcases fzR_cases (m := m) (w := w) with q | ⟨y, rfl, q⟩ | ⟨n, g, y, rfl, hg, hy, q⟩ | ⟨n, f, g, o, rfl, hg, hf, q⟩
  · rw [q] at e; cases e
  · rw [q] at e; cases e
    exact ⟨F, Le.rfl', R, hw⟩
  · rw [q] at e; cases e
    obtain ⟨p, e1, rfl⟩ := hw
    obtain ⟨ow, hx⟩ := R.ex
    have hn := hx n p g e1 hg
    obtain ⟨l1, l2⟩ := R.sub.sandwich fun a => (ow a).1 = n ∧ T.side a = none
    refine ⟨_, l1, ⟨l2, by simp [R.len], ⟨ow, fun k p' g' e' q' => ?_⟩, R.sd, fun a o e => ?_⟩, ?_⟩
    · by_cases hk : n = k
      · subst hk
        rw [List.getElem?_set_self (List.getElem?_eq_some_iff.mp hg).1] at q'
        cases q'
      · rw [List.getElem?_set_ne hk] at q'
        obtain ⟨h1, h2, ⟨o1, h3, h3'⟩, h4, h5, h6⟩ := hx k p' g' e' q'
        refine ⟨h1, ?_, ⟨o1, h3, h3'.monoF l1⟩, h4, fun f b u e1 e2 => ?_, h6⟩
        · show (if (ow p'.1).1 = n ∧ T.side p'.1 = none then H p'.1 else F p'.1) = none
          rw [if_neg (by rw [h1]; exact fun z => hk z.1.symm)]
          exact h2
        · obtain ⟨k1, k2, u', k3, k4⟩ := h5 f b u e1 e2
          refine ⟨k1, ?_, u', k3, k4.mono l1⟩
          show (if (ow b).1 = n ∧ T.side b = none then H b else F b) = none
          rw [if_neg (by rw [k1]; exact fun z => hk z.1.symm)]
          exact k2
    · show (if (ow a).1 = n ∧ T.side a = none then H a else F a) = none
      rw [if_neg (fun z => by rw [z.2] at e; cases e)]
      exact R.sf a o e
    · obtain ⟨o, h3, h3'⟩ := hn.root
      have at_ : (fun a => if (ow a).1 = n ∧ T.side a = none then H a else F a) p.1 = some o := by
        show (if (ow p.1).1 = n ∧ T.side p.1 = none then H p.1 else F p.1) = some o
        rw [if_pos ⟨by rw [hn.own], hn.sd.1⟩, h3]
      have inn_ : ∀ (f : Nat) (b : Addr) (o : Fo), p.2[f]? = some b → g.inn[f]? = some (some o) → RD T (fun a => if (ow a).1 = n ∧ T.side a = none then H a else F a) (.ref b) o.data := fun f b o eb eo => by
        obtain ⟨k1, k2, u', k3, k4⟩ := hn.inn f b o eb eo
        refine (k4.mono l1).data ?_
        show (if (ow b).1 = n ∧ T.side b = none then H b else F b) = some u'
        rw [if_pos ⟨by rw [k1], hn.sd.2 f b o eb eo⟩, k3]
      unfold Gr.data at hy
      split at hy
      · rename_i us hr
        split at hy
        · rename_i xs hxs
          cases hy
          rw [hr] at h3'
          obtain ⟨vs, rfl, r⟩ := h3'
          have r' := RUs.mono (bs := []) l1 r
          rw [List.append_nil] at r'
          exact .lst (.inl at_) (dataU_rds inn_ r' hxs)
        · cases hy
      · rename_i c us hr
        split at hy
        · rename_i xs hxs
          cases hy
          rw [hr] at h3'
          obtain ⟨dx, vs, rfl, nl, r⟩ := h3'
          have r' := RUs.mono (bs := []) l1 r
          rw [List.append_nil] at r'
          exact .ins at_ nl (dataU_rds inn_ r' hxs)
        · cases hy
      · rename_i fo hr
        cases hy
        rw [hr] at h3'
        exact (RF.mono l1 h3').data at_
  · rw [q] at e; cases e
    obtain ⟨a, e1, rfl⟩ := hw
    obtain ⟨ow, hx⟩ := R.ex
    unfold Cn.roI at e1
    cases z : ρ[n]? with
    | none => rw [z] at e1; cases e1
    | some p =>
      rw [z] at e1
      have e1' : p.2[f]? = some a := e1
      have hn := hx n p g z hg
      obtain ⟨b1, b2, u, b3, b4⟩ := hn.inn f a o e1' hf
      obtain ⟨l1, l2⟩ := R.sub.sandwich fun b => ow b = (n, some f) ∧ T.side b = none
      refine ⟨_, l1, ⟨l2, by simp [R.len], ⟨ow, fun k p' g' e' q' => ?_⟩, R.sd, fun a_1 o_1 e_1 => ?_⟩, ?_⟩
      · have other : ∀ (b : Addr) (y : Nat × Option Nat), ow b = y → y ≠ (n, some f) → F b = none → (if ow b = (n, some f) ∧ T.side b = none then H b else F b) = none := fun b y e1 e2 e3 => by
          rw [if_neg (by rw [e1]; exact fun z => e2 z.1)]
          exact e3
        by_cases hk : n = k
        · subst hk
          rw [z] at e'
          cases e'
          rw [List.getElem?_set_self (List.getElem?_eq_some_iff.mp hg).1] at q'
          cases q'
          obtain ⟨o1, h3, h3'⟩ := hn.root
          refine ⟨hn.own, other _ _ hn.own (by simp) hn.fr, ⟨o1, h3, h3'.monoF l1⟩, by simpa using hn.len, fun f' b u e1 e2 => ?_, hn.sd.1, fun f' b u e1 e2 => ?_⟩
          rotate_left
          · have e2' : (g.inn.set f none)[f']? = some (some u) := e2
            by_cases hff : f = f'
            · subst hff
              rw [List.getElem?_set_self (List.getElem?_eq_some_iff.mp hf).1] at e2'
              cases e2'
            · rw [List.getElem?_set_ne hff] at e2'
              exact hn.sd.2 f' b u e1 e2'
          by_cases hff : f = f'
          · subst hff
            have e2' : (g.inn.set f none)[f]? = some (some u) := e2
            rw [List.getElem?_set_self (List.getElem?_eq_some_iff.mp hf).1] at e2'
            cases e2'
          · have e2' : (g.inn.set f none)[f']? = some (some u) := e2
            rw [List.getElem?_set_ne hff] at e2'
            obtain ⟨k1, k2, u', k3, k4⟩ := hn.inn f' b u e1 e2'
            exact ⟨k1, other _ _ k1 (fun z => hff (by have := congrArg Prod.snd z; simpa using this.symm)) k2, u', k3, k4.mono l1⟩
        · rw [List.getElem?_set_ne hk] at q'
          obtain ⟨h1, h2, ⟨o1, h3, h3'⟩, h4, h5, h6⟩ := hx k p' g' e' q'
          refine ⟨h1, other _ _ h1 (by simp) h2, ⟨o1, h3, h3'.monoF l1⟩, h4, fun f' b u e1 e2 => ?_, h6⟩
          obtain ⟨k1, k2, u', k3, k4⟩ := h5 f' b u e1 e2
          exact ⟨k1, other _ _ k1 (fun z => hk (congrArg Prod.fst z).symm) k2, u', k3, k4.mono l1⟩
      · show (if ow a_1 = (n, some f) ∧ T.side a_1 = none then H a_1 else F a_1) = none
        rw [if_neg (fun z => by rw [z.2] at e_1; cases e_1)]
        exact R.sf a_1 o_1 e_1
      · refine (b4.mono l1).data ?_
        show (if ow a = (n, some f) ∧ T.side a = none then H a else F a) = some u
        rw [if_pos ⟨b1, hn.sd.2 f a o e1' hf⟩, b3]
end
end Cn

/-! # the expressions: each form keeps what the evaluator says -/
namespace Cn
open PySem PySem.Spec PyProof.Rows L2

/-- a callee's promise: what the evaluator says of it -/
def spR (T : Tx) (xt : Xt) (c : List W → Mu → Res W) : Sp := fun vs H Q E => ∃ F ρ m ws, Rel T F ρ H m ∧ RWs T F ρ vs ws ∧ After T xt F ρ (c ws m) (KV1 T Q) (fun c dx H' => E c dx H')

section
variable {T : Tx} {xt : Xt} {W' : WX} {σ : L2.St} {H : Hp} {F : Hp} {ρ : Ro} {m : Mu}
theorem PW.imp {X : Cx} {e : Expr} {t t' : TT} (h : L2.PW X e t) (i : ∀ σ H Q, t' σ H Q → t σ H Q) : L2.PW X e t' := ⟨fun wh pins s σ H Q I q => h.run wh pins s σ H Q I (i σ H Q q)⟩
theorem PI.imp {X : Cx} {tg e : Expr} {t t' : TI} (h : L2.PI X tg e t) (i : ∀ σ H Q, t' σ H Q → t σ H Q) : L2.PI X tg e t' := ⟨fun pins s σ H Q I q => h.run pins s σ H Q I (i σ H Q q)⟩

/-- a value at once -/
theorem tE_now {ev : Sl → Mu → Res W} {w : W} {Q : VK} {v : V} (h : tE T xt W' ev σ H Q) (he : ∀ ws m, ev ws m = .ok w m) (hv : ∀ F ρ, RW T F ρ v w) : Q v H := by
  obtain ⟨F, ρ, m, ws, R, S, A⟩ := h
  rw [he] at A
  exact fin_old A R (hv _ _)
theorem tE_var {i : Nat} {C : Calls} {Q : VK} (h : tE T xt W' (fun ws m => evE C ws m (.var i)) σ H Q) : tVar i σ H Q := by
  obtain ⟨F, ρ, m, ws, R, S, A⟩ := h
  simp only [evE] at A
  split at A
  · rename_i w e
    obtain ⟨v, e1, hv⟩ := S.2 i w e
    exact ⟨v, e1, fin_old A R hv⟩
  · exact A.elim
/-- one of two -/
theorem tE_un {ea ev : Sl → Mu → Res W} {f : Mu → W → Res W} {Q : VK} {r : V → Hp → VK → Prop} (h : tE T xt W' (fun ws m => (ea ws m).bind fun x m => f m x) σ H Q)
    (hr : ∀ x H Q, r1 T xt f x H Q → r x H Q) : tUn r (tE T xt W' ea) σ H Q :=
  tE_bind (f := fun ws x m => f m x) h fun F ρ m ws v w H1 R S hv a => hr _ _ _ ⟨F, ρ, m, w, R, hv, a.imp (fun _ _ _ _ _ _ _ _ z => z) fun _ _ _ _ => trivial⟩
theorem tE_fz {ea : Sl → Mu → Res W} {Q : VK} (h : tE T xt W' (fun ws m => (ea ws m).bind fun w m => (fzR m w).bind fun x m => .ok (.d x) m) σ H Q) : tE T xt W' ea σ H Q := by
  refine tE_bind (f := fun ws w m => (fzR m w).bind fun x m => .ok (.d x) m) h fun F ρ m ws v w H1 R S hv a => ?_
  cases e : fzR m w with
  | ok x m' =>
    rw [e] at a
    obtain ⟨F', l, R', hx⟩ := R.freeze hv e
    exact a F' ρ H1 R' l .rfl' v hx
  | exc x m' =>
    rcases fzR_cases (m := m) (w := w) with q | ⟨_, _, q⟩ | ⟨_, _, _, _, _, _, q⟩ | ⟨_, _, _, _, _, _, _, q⟩ <;> (rw [q] at e; cases e)
  | stuck => rw [e] at a; exact a.elim
/-- a truth in the middle -/
theorem tE_bl {ea : Sl → Mu → Res W} {f g : Sl → Mu → Res W} {Q : VK} {R : V → Hp → Prop}
    (h : tE T xt W' (fun ws m => (ea ws m).bind fun x m => match x with | .d (.bl true) => f ws m | .d (.bl false) => g ws m | _ => .stuck) σ H Q)
    (h1 : ∀ H1, tE T xt W' f σ H1 Q → R (.bl true) H1) (h2 : ∀ H1, tE T xt W' g σ H1 Q → R (.bl false) H1) : tE T xt W' ea σ H R := by
  refine tE_bind (f := fun ws x m => match x with | .d (.bl true) => f ws m | .d (.bl false) => g ws m | _ => .stuck) h fun F ρ m ws v w H1 R1 S hv a => ?_
  split at a
  · cases hv; exact h1 H1 ⟨F, ρ, m, ws, R1, S, a⟩
  · cases hv; exact h2 H1 ⟨F, ρ, m, ws, R1, S, a⟩
  · exact a.elim
theorem tE_ok {w : W} {Q : VK} {v : V} (h : tE T xt W' (fun _ m => .ok w m) σ H Q) (hv : ∀ F ρ, RW T F ρ v w) : Q v H := tE_now h (fun _ _ => rfl) hv
section
variable {C : Calls} {a b c : E} {Q : VK}
theorem s_and (h : tE T xt W' (fun ws m => evE C ws m (.and2 a b)) σ H Q) : tAndV (tE T xt W' fun ws m => evE C ws m a) (tE T xt W' fun ws m => evE C ws m b) σ H Q := by
  simp only [evE] at h
  exact tE_bl (f := fun ws m => evE C ws m b) (g := fun _ m => .ok (.d (.bl false)) m) h (fun H1 h1 => ⟨true, rfl, h1⟩) fun H1 h2 => ⟨false, rfl, tE_ok h2 fun _ _ => .bl false⟩
theorem s_or (h : tE T xt W' (fun ws m => evE C ws m (.or2 a b)) σ H Q) : tOrV (tE T xt W' fun ws m => evE C ws m a) (tE T xt W' fun ws m => evE C ws m b) σ H Q := by
  simp only [evE] at h
  obtain ⟨F, ρ, m, ws, R, S, A⟩ := h
  refine tE_bind (f := fun ws x m => match x with | .d (.bl false) => evE C ws m b | .d (.bl true) => .ok (.d (.bl true)) m | _ => .stuck) ⟨F, ρ, m, ws, R, S, A⟩ fun F ρ m ws v w H1 R1 S hv a => ?_
  split at a
  · cases hv; exact ⟨false, rfl, F, ρ, m, ws, R1, S, a⟩
  · cases hv; exact ⟨true, rfl, fin_old a R1 (.bl true)⟩
  · exact a.elim
theorem s_not (h : tE T xt W' (fun ws m => evE C ws m (.not a)) σ H Q) : tNotV (tE T xt W' fun ws m => evE C ws m a) σ H Q := by
  simp only [evE] at h
  refine tE_bind (f := fun ws x m => match x with | .d (.bl b) => .ok (.d (.bl (!b))) m | _ => .stuck) h fun F ρ m ws v w H1 R1 S hv a => ?_
  split at a
  · cases hv; exact ⟨_, rfl, fin_old a R1 (.bl _)⟩
  · exact a.elim
theorem s_ife (h : tE T xt W' (fun ws m => evE C ws m (.ife c a b)) σ H Q) : tIf (tTest (tE T xt W' fun ws m => evE C ws m c)) (tE T xt W' fun ws m => evE C ws m a) (tE T xt W' fun ws m => evE C ws m b) σ H Q := by
  simp only [evE] at h
  exact tE_bl (f := fun ws m => evE C ws m a) (g := fun ws m => evE C ws m b) h (fun H1 h1 => ⟨true, rfl, h1⟩) fun H1 h2 => ⟨false, rfl, h2⟩
theorem w_and {Q : Bool → Hp → Prop} (h : tTest (tE T xt W' (fun ws m => evE C ws m (.and2 a b))) σ H Q) : tAnd (tTest (tE T xt W' fun ws m => evE C ws m a)) (tTest (tE T xt W' fun ws m => evE C ws m b)) σ H Q := by
  have h' : tE T xt W' (fun ws m => evE C ws m (.and2 a b)) σ H (fun x H' => ∃ k, x = .bl k ∧ Q k H') := h
  simp only [evE] at h'
  refine tE_bl (f := fun ws m => evE C ws m b) (g := fun _ m => .ok (.d (.bl false)) m) h' (fun H1 h1 => ⟨true, rfl, h1⟩) fun H1 h2 => ⟨false, rfl, ?_⟩
  obtain ⟨k, e, q⟩ := tE_ok (v := .bl false) h2 fun _ _ => .bl false
  cases e
  exact q
theorem w_or {Q : Bool → Hp → Prop} (h : tTest (tE T xt W' (fun ws m => evE C ws m (.or2 a b))) σ H Q) : tOr (tTest (tE T xt W' fun ws m => evE C ws m a)) (tTest (tE T xt W' fun ws m => evE C ws m b)) σ H Q := by
  have h' : tE T xt W' (fun ws m => evE C ws m (.or2 a b)) σ H (fun x H' => ∃ k, x = .bl k ∧ Q k H') := h
  simp only [evE] at h'
  refine tE_bind (f := fun ws x m => match x with | .d (.bl false) => evE C ws m b | .d (.bl true) => .ok (.d (.bl true)) m | _ => .stuck) h' fun F ρ m ws v w H1 R1 S hv a => ?_
  split at a
  · cases hv; exact ⟨false, rfl, F, ρ, m, ws, R1, S, a⟩
  · cases hv
    obtain ⟨k, e, q⟩ := fin_old a R1 (.bl true)
    cases e
    exact ⟨true, rfl, q⟩
  · exact a.elim
theorem w_not {Q : Bool → Hp → Prop} (h : tTest (tE T xt W' (fun ws m => evE C ws m (.not a))) σ H Q) : tNot (tTest (tE T xt W' fun ws m => evE C ws m a)) σ H Q := by
  have h' : tE T xt W' (fun ws m => evE C ws m (.not a)) σ H (fun x H' => ∃ k, x = .bl k ∧ Q k H') := h
  obtain h2 := s_not h'
  refine (show tE T xt W' (fun ws m => evE C ws m a) σ H _ from h2) |> fun z => ?_
  obtain ⟨F, ρ, m, ws, R, S, A⟩ := z
  refine ⟨F, ρ, m, ws, R, S, A.imp (fun _ _ _ _ _ _ _ _ k v hv => ?_) fun _ _ _ z => z⟩
  obtain ⟨c, e, k2, e2, q⟩ := k v hv
  cases e2
  exact ⟨c, e, q⟩
/-! ### operations -/
variable {X : Cx}
theorem op_bin (hK : X.K = T.K) (o : Bo) : OpR X (binaryOp (match o with | .add => .Add | .sub => .Sub | .mul => .Mult | .fdiv => .FloorDiv | .mod => .Mod)) (r2 T xt fun m => binR m o) := by
  cases o with
  | add => exact op_add' hK
  | sub => exact op_sub'
  | mul => exact op_mul' hK
  | fdiv => exact op_fdiv'
  | mod => exact op_mod'
theorem s_bin {o : Bo} (h : tE T xt W' (fun ws m => evE C ws m (.bin o a b)) σ H Q) : tOp (r2 T xt fun m => binR m o) (tE T xt W' fun ws m => evE C ws m a) (tE T xt W' fun ws m => evE C ws m b) σ H Q := by
  simp only [evE] at h
  exact tOp_of h
theorem op_mulM : OpR X (binaryOp .Mult) (r2 T xt mulMR) := by
  rintro pins s σ H x y v u Q I rx ry ⟨F, ρ, m, w, u', R, hx, hy, A⟩
  unfold mulMR at A
  split at A
  · obtain ⟨g, A⟩ := guard_ok A
    obtain ⟨g1, g3⟩ := dec_and g
    obtain ⟨g1, g2⟩ := dec_and g1
    obtain ⟨a, vs, rfl, ha, h1⟩ := RD.seqL hx
    rw [RD.intV hy] at ry
    obtain ⟨t, rfl⟩ := ry
    cases rx
    exact rep_lst I (R.sub.rd ha) (of_decide_eq_true g1) (of_decide_eq_true g2) (by rw [h1.length]; exact of_decide_eq_true g3) fun p n => fin_obj A R ⟨_, rfl, h1.rep _⟩ n
  · exact A.elim
theorem s_mulM (h : tE T xt W' (fun ws m => evE C ws m (.mulM a b)) σ H Q) : tOp (r2 T xt mulMR) (tE T xt W' fun ws m => evE C ws m a) (tE T xt W' fun ws m => evE C ws m b) σ H Q := by
  simp only [evE] at h
  exact tOp_of h
theorem s_cmp {o : Co} (h : tE T xt W' (fun ws m => evE C ws m (.cmp o a b)) σ H Q) : tOp (r2B T xt fun m => cmpR m o) (tE T xt W' fun ws m => evE C ws m a) (tE T xt W' fun ws m => evE C ws m b) σ H Q := by
  simp only [evE] at h
  exact tOp_of (f := fun m x y => blR (cmpR m o x y)) h
/-- a op1 b op2 c -/
theorem s_ch {o p : Co} (h : tE T xt W' (fun ws m => evE C ws m (.ch o p a b c)) σ H Q) :
    tChain (r2B T xt fun m => cmpR m o) (r2B T xt fun m => cmpR m p) (tE T xt W' fun ws m => evE C ws m a) (tE T xt W' fun ws m => evE C ws m b) (tE T xt W' fun ws m => evE C ws m c) σ H Q := by
  simp only [evE] at h
  refine tE_bind (f := fun ws x m => (evE C ws m b).bind fun y m => (cmpR m o x y).bind fun k m => if k then (evE C ws m c).bind fun z m => blR (cmpR m p y z) else .ok (.d (.bl false)) m) h fun F ρ m ws v w H1 R S hv A => ?_
  refine ⟨F, ρ, m, ws, R, S, A.bind.imp (fun F1 ρ1 H2 m1 u r1 l1 g1 k y hy => ?_) fun _ _ _ z => z⟩
  refine ⟨F1, ρ1, m1, w, u, r1, hv.mono l1 g1, hy, ?_⟩
  -- the truth of the first
  have k2 := k.bind
  show After T xt F1 ρ1 (blR (cmpR m1 o w u)) _ _
  cases e : cmpR m1 o w u with
  | ok t m2 =>
    rw [e] at k2
    intro F2 ρ2 H3 r2 l2 g2 z hz
    cases hz
    refine ⟨t, rfl, ?_⟩
    have k3 := k2 F2 ρ2 H3 r2 l2 g2
    cases t with
    | false => exact fin_old k3 r2 (.bl false)
    | true =>
      refine ⟨F2, ρ2, m2, ws, r2, S.mono (l1.trans l2) (g1.trans g2), (show After T xt F2 ρ2 ((evE C ws m2 c).bind fun z m => blR (cmpR m p u z)) _ _ from k3).bind.imp (fun F3 ρ3 H4 m3 q r3 l3 g3 k4 y2 hy2 => ?_) fun _ _ _ z => z⟩
      exact ⟨F3, ρ3, m3, u, q, r3, (hy.mono l2 g2).mono l3 g3, hy2, k4.imp (fun _ _ _ _ _ _ _ _ z => z) fun _ _ _ _ => trivial⟩
  | exc x m2 => intro F2 ρ2 H3 c dx r2 l2 g2 xx; trivial
  | stuck => rw [e] at k2; exact k2.elim
/-! ### lists of expressions -/
theorem a_nil {Q : List V → Hp → Prop} (h : tA T xt W' (fun ws m => evEs C ws m .nil) σ H Q) : tNil σ H Q := by
  obtain ⟨F, ρ, m, ws, R, S, A⟩ := h
  simp only [evEs] at A
  exact A.ok R _ .nil
theorem a_cons {es : Es} {Q : List V → Hp → Prop} (h : tA T xt W' (fun ws m => evEs C ws m (.cons a es)) σ H Q) : tCons (tE T xt W' fun ws m => evE C ws m a) (tA T xt W' fun ws m => evEs C ws m es) σ H Q := by
  obtain ⟨F, ρ, m, ws, R, S, A⟩ := h
  simp only [evEs] at A
  refine ⟨F, ρ, m, ws, R, S, A.bind.imp (fun F1 ρ1 H1 m1 w r1 l1 g1 k v hv => ?_) fun _ _ _ z => z⟩
  refine ⟨F1, ρ1, m1, ws, r1, S.mono l1 g1, k.bind.imp (fun F2 ρ2 H2 m2 us r2 l2 g2 k2 vs hvs => ?_) fun _ _ _ z => z⟩
  exact k2.ok r2 _ (.cons (hv.mono l2 g2) hvs)
theorem allD_rds : ∀ {ws : List W} {vs : List V} {xs : List D}, RWs T F ρ vs ws → allD ws = some xs → RDs T F vs xs
  | [], _, _, .nil, e => by cases e; exact .nil
  | .d x :: r, _, _, .cons h t, e => by
    unfold allD at e
    split at e
    · rename_i ys q
      cases e
      exact .cons h (allD_rds t q)
    · cases e
  | .h _ :: r, _, _, .cons h t, e => by cases e
  | .hi _ _ :: r, _, _, .cons h t, e => by cases e
  | .kt _ :: r, _, _, .cons h t, e => by cases e
  | .clo _ _ :: r, _, _, .cons h t, e => by cases e
theorem tA_bind {ev : Sl → Mu → Res (List W)} {f : Sl → List W → Mu → Res W} {Q : VK} {R : List V → Hp → Prop} (h : tE T xt W' (fun ws m => (ev ws m).bind (f ws)) σ H Q)
    (g : ∀ F ρ m ws vs us H1, Rel T F ρ H1 m → RSl T F ρ σ ws → RWs T F ρ vs us → After T xt F ρ (f ws us m) (fun F' ρ' H' _ w => ∀ v, RW T F' ρ' v w → Q v H') (fun c dx H' => W' c dx σ H') → R vs H1) : tA T xt W' ev σ H R := by
  obtain ⟨F, ρ, m, ws, r, s, a⟩ := h
  refine ⟨F, ρ, m, ws, r, s, a.bind.imp (fun F1 ρ1 H1 m1 w r1 l1 g1 k v hv => ?_) fun _ _ _ z => z⟩
  exact g F1 ρ1 m1 ws v w H1 r1 (s.mono l1 g1) hv k
theorem s_tup {es : Es} (h : tE T xt W' (fun ws m => evE C ws m (.tup es)) σ H Q) : tTup (tA T xt W' fun ws m => evEs C ws m es) σ H Q := by
  simp only [evE] at h
  refine tA_bind (f := fun _ us m => match allD us with | some xs => guardR (decide (xs.length ≤ line)) (.ok (.d (.tup xs)) m) | none => .stuck) h fun F ρ m ws vs us H1 R S hv A => ?_
  split at A
  · rename_i xs e
    obtain ⟨g, A⟩ := guard_ok A
    have r := allD_rds hv e
    exact ⟨by rw [r.length]; exact of_decide_eq_true g, fun p n => fin_tup A R r n⟩
  · exact A.elim
theorem s_lst {es : Es} (h : tE T xt W' (fun ws m => evE C ws m (.lst es)) σ H Q) : tLst (tA T xt W' fun ws m => evEs C ws m es) σ H Q := by
  simp only [evE] at h
  refine tA_bind (f := fun _ us m => match allD us with | some xs => guardR (decide (xs.length ≤ line)) (.ok (.d (.lst xs)) m) | none => .stuck) h fun F ρ m ws vs us H1 R S hv A => ?_
  split at A
  · rename_i xs e
    obtain ⟨g, A⟩ := guard_ok A
    have r := allD_rds hv e
    exact ⟨by rw [r.length]; exact of_decide_eq_true g, fun p n => fin_lst A R r n⟩
  · exact A.elim
theorem s_lstM {es : Es} (h : tE T xt W' (fun ws m => evE C ws m (.lstM es)) σ H Q) : tLst (tA T xt W' fun ws m => evEs C ws m es) σ H Q := by
  simp only [evE] at h
  refine tA_bind (f := fun _ us m => match allD us with | some xs => guardR (decide (xs.length ≤ line)) (newR m (.o (.lst xs))) | none => .stuck) h fun F ρ m ws vs us H1 R S hv A => ?_
  split at A
  · rename_i xs e
    obtain ⟨g, A⟩ := guard_ok A
    have r := allD_rds hv e
    exact ⟨by rw [r.length]; exact of_decide_eq_true g, fun p n => fin_obj A R ⟨_, rfl, r⟩ n⟩
  · exact A.elim
/-- a call -/
theorem s_call {es : Es} {f : Nat} (h : tE T xt W' (fun ws m => evE C ws m (.call f es)) σ H Q) : tCallS (spR T xt (C f)) (WE W') (tA T xt W' fun ws m => evEs C ws m es) σ H Q := by
  simp only [evE] at h
  exact tA_bind (f := fun _ us m => C f us m) h fun F ρ m ws vs us H1 R S hv A => ⟨F, ρ, m, us, R, hv, A⟩
end
end
end Cn

/-! # dicts, indices, slices, built-ins -/
namespace Cn
open PySem PySem.Spec PyProof.Rows L2

theorem kyV_inj {a b : Ky} : kyV a = kyV b ↔ a = b := by
  cases a <;> cases b <;> simp [kyV, strV_inj]
theorem map_inl_inj {a b : List Int} : (a.map (Sum.inl : Int → L2.Key)) = b.map Sum.inl ↔ a = b := by
  constructor
  · intro h
    induction a generalizing b with
    | nil => cases b with
      | nil => rfl
      | cons _ _ => cases h
    | cons x r ih => cases b with
      | nil => cases h
      | cons y s =>
        simp only [List.map_cons, List.cons.injEq] at h
        obtain ⟨h1, h2⟩ := h
        cases h1
        rw [ih h2]
  · intro h; rw [h]
theorem ktV_inj {a b : List Int} : ktV a = ktV b ↔ a = b := map_inl_inj
section
variable {T : Tx} {F H : Hp} {ρ : Ro} {m : Mu}
theorem valV_zip {κ κ' : Type} [DecidableEq κ] [DecidableEq κ'] {f : κ → κ'} (hf : ∀ {a b : κ}, f a = f b ↔ a = b) (k : κ) : ∀ {ks : List κ} {vs : List V} {xs : List D}, RDs T F vs xs → ks.length = vs.length →
    (getA k ks xs = none → valV ((ks.map f).zip vs) (f k) = none) ∧ ∀ x, getA k ks xs = some x → ∃ v, valV ((ks.map f).zip vs) (f k) = some v ∧ RD T F v x
  | [], [], _, .nil, _ => ⟨fun _ => rfl, fun x e => by cases e⟩
  | a :: r, v :: vs, _, .cons (x := x) (xs := xs) h t, hl => by
    have ih := valV_zip hf k t (ks := r) (by simpa using hl)
    by_cases e : a = k
    · subst e
      refine ⟨fun q => ?_, fun y q => ?_⟩
      · unfold getA at q; rw [if_pos rfl] at q; cases q
      · unfold getA at q; rw [if_pos rfl] at q; cases q
        exact ⟨v, by simp [valV, List.find?_cons], h⟩
    · have e' : ¬ f a = f k := fun z => e (hf.mp z)
      have h1 : getA k (a :: r) (x :: xs) = getA k r xs := by
        show (if a = k then some x else getA k r xs) = _
        rw [if_neg e]
      have h2 : valV (((a :: r).map f).zip (v :: vs)) (f k) = valV ((r.map f).zip vs) (f k) := by
        simp [valV, List.find?_cons, e']
      rw [h1, h2]
      exact ih
  | [], v :: vs, _, .cons _ _, hl => by simp at hl
  | a :: r, [], _, .nil, hl => by simp at hl
/-- a dict that is to be read: keys of numbers and texts; of tuples -/
theorem Rel.dicK (R : Rel T F ρ H m) {v : V} {w : W} {ks : List Ky} {xs : List D} (hw : RW T F ρ v w) (e : dicOf m w = some (.dK ks xs)) : ∃ a vs, v = .ref a ∧ Rd H a (.dK ((ks.map kyV).zip vs)) ∧ ks.length = vs.length ∧ RDs T F vs xs := by
  unfold dicOf at e
  split at e
  · cases e
    cases hw with
    | dK h n r => exact ⟨_, _, rfl, .inl (R.sub _ _ h), n, r⟩
  · cases e
  · cases e
  · unfold foAt at e
    split at e
    · rename_i n hx1 hx2 hx3
      split at e
      · rename_i o ho
        cases e
        obtain ⟨g, hg, hr⟩ := rootAt_some ho
        obtain ⟨p, e1, rfl⟩ := hw
        obtain ⟨ow, h⟩ := R.at e1 hg
        obtain ⟨u, h1, h2⟩ := h.root
        rw [hr] at h2
        obtain ⟨vs, rfl, n, r⟩ := h2
        exact ⟨_, vs, rfl, .inl h1, n, r⟩
      · cases e
    · obtain ⟨a, e1, rfl⟩ := hw
      obtain ⟨g, hg, hf⟩ := inAt_some e
      obtain ⟨p, u, _, _, h1, ⟨vs, rfl, n, r⟩, _⟩ := R.roI e1 hg hf
      exact ⟨_, vs, rfl, .inl h1, n, r⟩
    · cases e
theorem Rel.dicT (R : Rel T F ρ H m) {v : V} {w : W} {ks : List (List Int)} {xs : List D} (hw : RW T F ρ v w) (e : dicOf m w = some (.dT ks xs)) : ∃ a vs, v = .ref a ∧ Rd H a (.dT ((ks.map ktV).zip vs)) ∧ ks.length = vs.length ∧ RDs T F vs xs := by
  unfold dicOf at e
  split at e
  · cases e
  · cases e
    cases hw with
    | dT h n r => exact ⟨_, _, rfl, .inl (R.sub _ _ h), n, r⟩
  · cases e
  · unfold foAt at e
    split at e
    · rename_i n hx1 hx2 hx3
      split at e
      · rename_i o ho
        cases e
        obtain ⟨g, hg, hr⟩ := rootAt_some ho
        obtain ⟨p, e1, rfl⟩ := hw
        obtain ⟨ow, h⟩ := R.at e1 hg
        obtain ⟨u, h1, h2⟩ := h.root
        rw [hr] at h2
        obtain ⟨vs, rfl, n, r⟩ := h2
        exact ⟨_, vs, rfl, .inl h1, n, r⟩
      · cases e
    · obtain ⟨a, e1, rfl⟩ := hw
      obtain ⟨g, hg, hf⟩ := inAt_some e
      obtain ⟨p, u, _, _, h1, ⟨vs, rfl, n, r⟩, _⟩ := R.roI e1 hg hf
      exact ⟨_, vs, rfl, .inl h1, n, r⟩
    · cases e
theorem dicOf_dic {w : W} : ∀ {o : Fo}, dicOf m w = some o → (∃ ks xs, o = .dK ks xs) ∨ (∃ ks xs, o = .dT ks xs) ∨ ∃ xs, o = .lst xs := by
  intro o _
  cases o with
  | lst xs => exact .inr (.inr ⟨_, rfl⟩)
  | dK ks xs => exact .inl ⟨_, _, rfl⟩
  | dT ks xs => exact .inr (.inl ⟨_, _, rfl⟩)
theorem key_at {v : V} {x : D} {k : Ky} (h : RD T F v x) (e : toKy x = some k) : v = kV (kyV k) := by
  cases h <;> cases e <;> rfl
theorem ints_at : ∀ {vs : List V} {xs : List D} {is : List Int}, RDs T F vs xs → intDs xs = some is → vs = (ktV is).map kV
  | _, _, _, .nil, e => by cases e; rfl
  | _, _, _, .cons (x := x) (xs := xs) h t, e => by
    unfold intDs at e
    split at e
    · rename_i i is' e1 e2
      cases e
      have := ints_at t e2
      cases h <;> cases e1
      rw [this]
      rfl
    · cases e
theorem ktup_at {v : V} {x : D} {k : List Int} (h : RD T F v x) (e : toKt x = some k) : ∃ b, v = .ref b ∧ F b = some (.tup ((ktV k).map kV)) := by
  cases h with
  | tup h r =>
    have := ints_at r e
    subst this
    exact ⟨_, rfl, h⟩
  | _ => cases e
theorem getA_contains {κ : Type} [DecidableEq κ] [BEq κ] [LawfulBEq κ] (k : κ) : ∀ {ks : List κ} {xs : List D}, ks.length = xs.length → (getA k ks xs).isSome = ks.contains k
  | [], [], _ => rfl
  | [], _ :: _, h => by simp at h
  | _ :: _, [], h => by simp at h
  | a :: r, x :: s, h => by
    have ih := getA_contains k (ks := r) (xs := s) (by simpa using h)
    unfold getA
    by_cases e : a = k
    · subst e; simp
    · rw [if_neg e, ih]
      have : ¬ k = a := fun z => e z.symm
      simp [this]
/-- what a dict holds at a key -/
theorem Rel.dgK (R : Rel T F ρ H m) {v y : V} {w : W} {ks : List Ky} {xs : List D} {x : D} {k : Ky} (hw : RW T F ρ v w) (e : dicOf m w = some (.dK ks xs)) (hy : RD T F y x) (ek : toKy x = some k) :
    ∃ a o, v = .ref a ∧ DGet H a y o ∧ o.isSome = ks.contains k ∧ (getA k ks xs = none → o = none) ∧ ∀ z, getA k ks xs = some z → ∃ u, o = some u ∧ RD T F u z := by
  obtain ⟨a, vs, rfl, hr, n, r⟩ := R.dicK hw e
  have q := valV_zip (f := kyV) kyV_inj k r n
  refine ⟨a, valV ((ks.map kyV).zip vs) (kyV k), rfl, .inl ⟨_, _, hr, key_at hy ek, rfl⟩, ?_, q.1, q.2⟩
  rw [← getA_contains k (n.trans r.length)]
  cases z : getA k ks xs with
  | none => rw [q.1 z]; rfl
  | some t => obtain ⟨u, e1, _⟩ := q.2 t z; rw [e1]; rfl
theorem Rel.dgT (R : Rel T F ρ H m) {v y : V} {w : W} {ks : List (List Int)} {xs : List D} {x : D} {k : List Int} (hw : RW T F ρ v w) (e : dicOf m w = some (.dT ks xs)) (hy : RD T F y x) (ek : toKt x = some k) :
    ∃ a o, v = .ref a ∧ DGet H a y o ∧ o.isSome = ks.contains k ∧ (getA k ks xs = none → o = none) ∧ ∀ z, getA k ks xs = some z → ∃ u, o = some u ∧ RD T F u z := by
  obtain ⟨a, vs, rfl, hr, n, r⟩ := R.dicT hw e
  obtain ⟨b, rfl, hb⟩ := ktup_at hy ek
  have q := valV_zip (f := ktV) ktV_inj k r n
  refine ⟨a, valV ((ks.map ktV).zip vs) (ktV k), rfl, .inr ⟨_, _, b, hr, rfl, R.sub _ _ hb, rfl⟩, ?_, q.1, q.2⟩
  rw [← getA_contains k (n.trans r.length)]
  cases z : getA k ks xs with
  | none => rw [q.1 z]; rfl
  | some t => obtain ⟨u, e1, _⟩ := q.2 t z; rw [e1]; rfl
end
section
variable {T : Tx} {xt : Xt} {X : Cx}
theorem op_in' (hK : X.K = T.K) (hu : X.A.units + 66 < cLine) : OpR X (compareOp .In) (r2B T xt inR) := by
  rintro pins s σ H x y v u Q I rx ry ⟨F, ρ, m, w, u', R, hx, hy, A⟩
  replace A : After T xt F ρ (blR (inR m w u')) (KV1 T Q) (fun _ _ _ => True) := A
  unfold inR at A
  split at A
  · rename_i ks xs e
    split at A
    · split at A
      · rename_i k ek
        obtain ⟨a, o, rfl, g, h1, _⟩ := R.dgK hy e hx ek
        cases ry
        refine d_in (by omega) I g rx fun s' I' => ⟨.bl _, H, I', rfl, ?_⟩
        rw [h1]
        exact ok_bl A R
      · exact A.elim
    · exact A.elim
  · rename_i ks xs e
    split at A
    · split at A
      · rename_i k ek
        obtain ⟨a, o, rfl, g, h1, _⟩ := R.dgT hy e hx ek
        cases ry
        refine d_in (by omega) I g rx fun s' I' => ⟨.bl _, H, I', rfl, ?_⟩
        rw [h1]
        exact ok_bl A R
      · exact A.elim
    · exact A.elim
  · exact op_inSeq hK hu pins s σ H x y v u Q I rx ry ⟨F, ρ, m, w, u', R, hx, hy, A⟩
theorem op_nin' (hK : X.K = T.K) (hu : X.A.units + 66 < cLine) : OpR X (compareOp .NotIn) (r2B T xt fun m a b => notR (inR m a b)) := by
  rintro pins s σ H x y v u Q I rx ry ⟨F, ρ, m, w, u', R, hx, hy, A⟩
  replace A : After T xt F ρ (blR (notR (inR m w u'))) (KV1 T Q) (fun _ _ _ => True) := A
  unfold inR at A
  split at A
  · rename_i ks xs e
    split at A
    · split at A
      · rename_i k ek
        obtain ⟨a, o, rfl, g, h1, _⟩ := R.dgK hy e hx ek
        cases ry
        refine d_notIn (by omega) I g rx fun s' I' => ⟨.bl _, H, I', rfl, ?_⟩
        rw [h1]
        exact ok_bl A R
      · exact A.elim
    · exact A.elim
  · rename_i ks xs e
    split at A
    · split at A
      · rename_i k ek
        obtain ⟨a, o, rfl, g, h1, _⟩ := R.dgT hy e hx ek
        cases ry
        refine d_notIn (by omega) I g rx fun s' I' => ⟨.bl _, H, I', rfl, ?_⟩
        rw [h1]
        exact ok_bl A R
      · exact A.elim
    · exact A.elim
  · exact op_ninSeq hK hu pins s σ H x y v u Q I rx ry ⟨F, ρ, m, w, u', R, hx, hy, A⟩
def coP : Co → CmpOp
  | .eq => .Eq
  | .ne => .NotEq
  | .lt => .Lt
  | .le => .LtE
  | .gt => .Gt
  | .ge => .GtE
  | .isN => .Is
  | .notN => .IsNot
  | .in_ => .In
  | .nin => .NotIn
theorem op_cmp (hK : X.K = T.K) (hu : X.A.units + 66 < cLine) (o : Co) : OpR X (compareOp (coP o)) (r2B T xt fun m => cmpR m o) := by
  cases o with
  | eq => exact op_eq' hK hu
  | ne => exact op_ne' hK hu
  | lt => exact ordR' op_lt
  | le => exact ordR' op_le
  | gt => exact ordR' op_gt
  | ge => exact ordR' op_ge
  | isN => exact op_is'
  | notN => exact op_isnot'
  | in_ => exact op_in' hK hu
  | nin => exact op_nin' hK hu
end
end Cn

/-! # indices, slices, built-ins -/
namespace Cn
open PySem PySem.Spec PyProof.Rows L2
theorem ixZ_ixN (n : Nat) (i : Int) : ixZ n i = ixN n i := rfl
theorem atZ_atI {α : Type} (xs : List α) (i : Int) : atZ xs i = atI xs i := rfl
theorem clipZ_sIx (n d : Nat) (o : Option Int) : clipZ n d o = HT.sIx n d o := by
  cases o with
  | none => rfl
  | some i => rfl
theorem cutZ_cutV (xs : List V) (lo hi : Option Int) : cutZ xs lo hi = cutV xs lo hi := by
  unfold cutZ cutV
  rw [clipZ_sIx, clipZ_sIx]
section
variable {T : Tx} {F H : Hp} {ρ : Ro} {m : Mu}
theorem RDs.atI {vs : List V} {xs : List D} {i : Int} {x : D} (r : RDs T F vs xs) (e : atZ xs i = some x) : ∃ v, L2.atI vs i = some v ∧ RD T F v x := by
  unfold atZ at e
  unfold L2.atI
  rw [← r.length, ixZ_ixN] at e
  cases q : ixN vs.length i with
  | none => rw [q] at e; cases e
  | some j =>
    rw [q] at e
    exact RDs.get r e
theorem RKs.atI {K : PySem.W.Frag} {vs : List V} {xs : List D} {i : Int} {x : D} (r : RKs K vs xs) (e : atZ xs i = some x) : ∃ v, L2.atI vs i = some v ∧ RK K v x := by
  unfold atZ at e
  unfold L2.atI
  rw [← r.length, ixZ_ixN] at e
  cases q : ixN vs.length i with
  | none => rw [q] at e; cases e
  | some j =>
    rw [q] at e
    exact RKs.get r e
theorem RUs.atI {as : List Addr} {vs : List V} {us : List U} {i : Int} {u : U} (r : RUs T F as vs us) (e : atZ us i = some u) : ∃ v, L2.atI vs i = some v ∧ RU T F as v u := by
  unfold atZ at e
  unfold L2.atI
  rw [← PairedLen r, ixZ_ixN] at e
  cases q : ixN vs.length i with
  | none => rw [q] at e; cases e
  | some j =>
    rw [q] at e
    have e' : us[j]? = some u := e
    clear q e
    induction r generalizing j with
    | nil => simp at e'
    | cons h t ih =>
      cases j with
      | zero => simp at e'; subst e'; exact ⟨_, rfl, h⟩
      | succ j => exact ih j (by simpa using e')
theorem RDs.cut {vs : List V} {xs : List D} (r : RDs T F vs xs) (lo hi : Option Int) : RDs T F (cutV vs lo hi) (cutZ xs lo hi) := by
  unfold cutZ cutV
  rw [clipZ_sIx, clipZ_sIx, r.length]
  exact (r.drop _).take _
theorem toK_rw {K : PySem.W.Frag} (hK : K = T.K) {v : V} {x : D} (h : RK K v x) : RW T F ρ v (toK x) := by
  subst hK
  cases h with
  | non => exact RD.non
  | bl b => exact RD.bl b
  | int i => exact RD.int i
  | str cs => exact RD.str cs
  | tup a b => exact RK.tup a b
theorem toU_rw {n : Nat} {p : Addr × List Addr} {v : V} {u : U} (e : ρ[n]? = some p) (h : RU T F p.2 v u) : RW T F ρ v (toU n u) := by
  cases u with
  | d x => exact h
  | i f =>
    obtain ⟨a, e1, rfl⟩ := h
    exact ⟨a, by unfold Cn.roI; rw [e]; exact e1, rfl⟩
/-- an object's root list -/
theorem Rel.rootLst (R : Rel T F ρ H m) {n : Nat} {p : Addr × List Addr} {us : List U} (e : ρ[n]? = some p) (hr : rootAt m n = some (.lst us)) : ∃ vs, H p.1 = some (.lst vs) ∧ RUs T F p.2 vs us := by
  obtain ⟨g, hg, hq⟩ := rootAt_some hr
  obtain ⟨ow, h⟩ := R.at e hg
  obtain ⟨o, h1, h2⟩ := h.root
  rw [hq] at h2
  obtain ⟨vs, rfl, h3⟩ := h2
  exact ⟨vs, h1, h3⟩
theorem Rel.rootFo (R : Rel T F ρ H m) {n : Nat} {p : Addr × List Addr} {f : Fo} (e : ρ[n]? = some p) (hr : rootAt m n = some (.o f)) : ∃ o, H p.1 = some o ∧ RF T F f o := by
  obtain ⟨g, hg, hq⟩ := rootAt_some hr
  obtain ⟨ow, h⟩ := R.at e hg
  obtain ⟨o, h1, h2⟩ := h.root
  rw [hq] at h2
  exact ⟨o, h1, h2⟩
end
section
variable {T : Tx} {xt : Xt} {X : Cx}
theorem RD.strNat {F : Hp} {cs : List Nat} : RD T F (.str (strV cs)) (.str cs) := .str cs
theorem ix_getK (hu : X.A.units + 66 < cLine) {value slice : Expr} {pins : List (Addr × Obj)} {s : Shared} {σ : L2.St} {H : Hp} {x y : V} {v u : Value} {Q : VK} {F : Hp} {ρ : Ro} {m : Mu} {w : W} {k : Ky} {d : D} {e : XK} (I : Inv X pins σ H s) (rx : RelV x v) (ry : RelV y u)
    (R : Rel T F ρ H m) (hx : RW T F ρ x w) (hy : RD T F y d) (ek : toKy d = some k) (A : After T xt F ρ (getK m w k) (KV1 T Q) e)
    (hs : subscripted slice false v u = operate [v, u] (getItem v u)) : wpAny (model X.prog X.w) X.A (subscriptTail value slice v u) (EP X pins σ Q) X.xe s := by
  unfold getK at A
  split at A
  · rename_i ks xs ed
    obtain ⟨a, o, rfl, g, _, _, h3⟩ := R.dgK hx ed hy ek
    split at A
    · rename_i z ez
      obtain ⟨uv, rfl, hz⟩ := h3 z ez
      cases rx
      exact tail_any (dict_typeIs I g) PySem.F.slot_dict_getitem.lookup (d_getItem (by omega) I g ry fun w' s3 I3 rw' => ⟨uv, H, I3, rw', fin_old A R hz⟩) hs
    · exact A.elim
  · exact A.elim
theorem ix_R (hK : X.K = T.K) (hu : X.A.units + 66 < cLine) : IxR X (r2 T xt ixR) := by
  rintro value slice pins s σ H x y v u Q I rx ry ⟨F, ρ, m, w, u', R, hx, hy, A⟩ hs
  unfold ixR at A
  split at A
  · rename_i i
    have ey := RD.intV hy
    subst ey
    split at A
    · -- tuple
      obtain ⟨a, vs, rfl, ha, h1⟩ := RD.seqT hx
      split at A
      · rename_i z ez
        obtain ⟨zv, e1, hz⟩ := h1.atI ez
        exact ix_tup value slice pins s σ H _ _ v u Q I rx ry ⟨a, vs, i, zv, rfl, rfl, .of (R.sub _ _ ha), e1, fin_old A R hz⟩ hs
      · exact A.elim
    · obtain ⟨a, vs, rfl, ha, h1⟩ := RD.seqL hx
      split at A
      · rename_i z ez
        obtain ⟨zv, e1, hz⟩ := h1.atI ez
        exact ix_list value slice pins s σ H _ _ v u Q I rx ry ⟨a, vs, i, zv, rfl, rfl, .inl (R.sub.rd ha), e1, fin_old A R hz⟩ hs
      · exact A.elim
    · rename_i cs
      have ex := RD.strV' hx
      subst ex
      obtain ⟨g, A⟩ := guard_ok A
      split at A
      · rename_i c ec
        refine ix_str value slice pins s σ H _ _ v u Q I rx ry ⟨strV cs, i, c, rfl, rfl, by rw [strV_len]; exact of_decide_eq_true g, ?_, ?_⟩ hs
        · rw [← atZ_atI]; simpa [strV] using ec
        · exact fin_old A R (.str [c])
      · exact A.elim
    · rename_i xs
      cases hx with
      | @tup a vs _ ha h1 =>
        split at A
        · rename_i z ez
          obtain ⟨zv, e1, hz⟩ := h1.atI ez
          exact ix_tup value slice pins s σ H _ _ v u Q I rx ry ⟨a, vs, i, zv, rfl, rfl, by rw [hK]; exact ha H, e1, fin_old A R (toK_rw rfl hz)⟩ hs
        · exact A.elim
    · rename_i n
      split at A
      · rename_i us hr
        obtain ⟨p, e1, rfl⟩ := hx
        obtain ⟨vs, h1, h2⟩ := R.rootLst e1 hr
        split at A
        · rename_i z ez
          obtain ⟨zv, e2, hz⟩ := h2.atI ez
          exact ix_list value slice pins s σ H _ _ v u Q I rx ry ⟨_, vs, i, zv, rfl, rfl, .inl (.inl h1), e2, fin_old A R (toU_rw e1 hz)⟩ hs
        · exact A.elim
      · rename_i xs hr
        obtain ⟨p, e1, rfl⟩ := hx
        obtain ⟨o, h1, vs, rfl, h2⟩ := R.rootFo e1 hr
        split at A
        · rename_i z ez
          obtain ⟨zv, e2, hz⟩ := h2.atI ez
          exact ix_list value slice pins s σ H _ _ v u Q I rx ry ⟨_, vs, i, zv, rfl, rfl, .inl (.inl h1), e2, fin_old A R hz⟩ hs
        · exact A.elim
      · exact ix_getK hu I rx ry R hx hy rfl A hs
    · rename_i n f
      split at A
      · rename_i xs hr
        obtain ⟨a, e1, rfl⟩ := hx
        obtain ⟨g, hg, hf⟩ := inAt_some hr
        obtain ⟨p, uo, _, _, h1, ⟨vs, rfl, h2⟩, _⟩ := R.roI e1 hg hf
        split at A
        · rename_i z ez
          obtain ⟨zv, e2, hz⟩ := h2.atI ez
          exact ix_list value slice pins s σ H _ _ v u Q I rx ry ⟨_, vs, i, zv, rfl, rfl, .inl (.inl h1), e2, fin_old A R hz⟩ hs
        · exact A.elim
      · exact ix_getK hu I rx ry R hx hy rfl A hs
    · exact ix_getK hu I rx ry R hx hy rfl A hs
  · exact ix_getK hu I rx ry R hx hy rfl A hs
  · exact A.elim
/-- a slice -/
def rSl (T : Tx) (xt : Xt) : V → Option Int → Option Int → Hp → VK → Prop := fun x lo hi H Q => ∃ F ρ m w, Rel T F ρ H m ∧ RW T F ρ x w ∧ After T xt F ρ (slR m w lo hi) (KV1 T Q) (fun _ _ _ => True)
theorem sl_R (hK : X.K = T.K) : SlR X (rSl T xt) := by
  rintro pins s σ H x v vl vu lo hi sl Q I rx hs pl pu ⟨F, ρ, m, w, R, hx, A⟩
  unfold slR at A
  split at A
  · rename_i xs e
    split at A
    · cases e
      obtain ⟨a, vs, rfl, ha, h1⟩ := RD.seqT hx
      refine sl_tupA pins s σ H _ v vl vu lo hi sl Q I rx hs pl pu ⟨a, vs, rfl, .of (R.sub _ _ ha), fun hw => ?_, fun hw p n => fin_tup A R (h1.cut lo hi) n⟩
      have e2 : cutZ xs lo hi = xs := by
        unfold cutZ
        rw [clipZ_sIx, clipZ_sIx, ← h1.length, hw.1, hw.2, h1.length]
        simp
      rw [e2] at A
      exact fin_old A R hx
    · exact A.elim
  · rename_i xs e
    rcases R.rdH hx e with h | h
    · obtain ⟨a, vs, rfl, ha, h1⟩ := RD.seqL h
      refine sl_list pins s σ H _ v vl vu lo hi sl Q I rx hs pl pu ⟨a, vs, rfl, .inl ha, fun p n => ?_⟩
      have r : ∃ F', Le F F' ∧ True := ⟨F, Le.rfl', trivial⟩
      -- the items stand over the heap that was tracked
      have hd : RDs T F vs xs := by
        cases w with
        | d y => cases e; obtain ⟨_, _, q, hb, h2⟩ := RD.seqL hx; cases q; rw [I.list_inj (.inl ha) (.inl (R.sub.rd hb))]; exact h2
        | kt y => cases e; cases hx
        | h k =>
          obtain ⟨p', e1, q⟩ := hx
          cases q
          simp only [rd] at e
          split at e
          · rename_i r hr
            split at e
            · rename_i ys hl
              cases e
              obtain ⟨us, g1, g2⟩ := R.lstD e1 hr hl
              rw [I.list_inj (.inl ha) (.inl (.inl g1))]; exact g2
            · cases e
          · cases e
        | hi k f =>
          obtain ⟨a', e1, q⟩ := hx
          cases q
          simp only [rd] at e
          split at e
          · rename_i ys hy
            cases e
            obtain ⟨g, hg, hf⟩ := inAt_some hy
            obtain ⟨p, u, _, _, g1, ⟨us, rfl, g2⟩, _⟩ := R.roI e1 hg hf
            rw [I.list_inj (.inl ha) (.inl (.inl g1))]; exact g2
          · cases e
        | clo _ _ => cases e
      exact fin_lst A R (hd.cut lo hi) n
    · cases h
  · exact A.elim
end
end Cn

/-! # a module's dict of numbers -/
namespace Cn
open PySem PySem.Spec PyProof.Rows L2
def entB (e : DictEntry) (p : Int × Int) : Bool := decide (e.hash = hashInt p.1) && (match e.key, e.val with
  | .int i _, .int j _ => decide (i = p.1) && decide (j = p.2)
  | _, _ => false)
def entsB : List DictEntry → List (Int × Int) → Bool
  | [], ps => ps.isEmpty
  | e :: r, ps => (match ps with | p :: s => entB e p && entsB r s | [] => false)
/-- at a stands a dict of numbers -/
def diB (K : PySem.W.Frag) (a : Addr) (ps : List (Int × Int)) : Bool := !(a == sysModules) && decide (ps.map fun p => (Sum.inl p.1 : L2.Key)).Nodup && (match K.lookup a with
  | some ⟨.type c, none, .dict es _, sl⟩ => decide (c = "dict") && sl.isEmpty && entsB es.toList ps
  | _ => false)
theorem ents_ok {P : Program} {w : World} : ∀ {es : List DictEntry} {ps : List (Int × Int)}, entsB es ps = true → ∃ vs : List (L2.Key × Value), Pairs (mixKind P w) es vs ∧ (∀ e ∈ es, ∃ k, (mixKind P w).is k e.key = true ∧ e.hash = (mixKind P w).hash k) ∧
    vs.map (·.1) = ps.map (fun p => (.inl p.1 : L2.Key)) ∧ ∀ i, (∀ j, ps.lookup i = some j → ∃ t, valueAt vs (.inl i) = some (.int j t)) ∧ (ps.lookup i = none → valueAt vs (.inl i) = none)
  | [], ps, h => by
    unfold entsB at h
    cases ps with
    | nil => exact ⟨[], .nil, (fun e he => by cases he), rfl, fun i => ⟨(fun j z => by cases z), fun _ => rfl⟩⟩
    | cons _ _ => cases h
  | e :: r, ps, h => by
    unfold entsB at h
    cases ps with
    | nil => cases h
    | cons p s =>
      obtain ⟨h1, h2⟩ := dec_and h
      obtain ⟨vs, g1, g2, g3, g4⟩ := ents_ok (P := P) (w := w) h2
      unfold entB at h1
      obtain ⟨h1, h3⟩ := dec_and h1
      obtain ⟨hs, ky, vl⟩ := e
      dsimp only at h1 h3
      split at h3
      · rename_i i t j u _
        obtain ⟨e1, e2⟩ := dec_and h3
        have e1 := of_decide_eq_true e1
        have e2 := of_decide_eq_true e2
        subst e1 e2
        have hh := of_decide_eq_true h1
        obtain ⟨p1, p2⟩ := p
        refine ⟨(.inl p1, .int p2 u) :: vs, .cons (keyIs_int p1 t) rfl g1, fun e he => ?_, by simp [g3], fun i => ?_⟩
        · rcases List.mem_cons.mp he with z | z
          · subst z
            exact ⟨.inl p1, keyIs_int p1 t, hh⟩
          · exact g2 e z
        · by_cases hi : p1 = i
          · subst hi
            refine ⟨fun j z => ?_, fun z => ?_⟩
            · have : j = p2 := by simpa [List.lookup] using z.symm
              subst this
              exact ⟨u, by simp [valueAt, List.find?_cons]⟩
            · simp [List.lookup] at z
          · have hb : (i == p1) = false := by simpa using fun z => hi z.symm
            have hv : valueAt ((.inl p1, .int p2 u) :: vs) (.inl i : L2.Key) = valueAt vs (.inl i) := by
              simp [valueAt, List.find?_cons, hi]
            rw [hv]
            simp only [List.lookup, hb]
            exact g4 i
      · cases h3
theorem diB_ok {P : Program} {w : World} {K : PySem.W.Frag} {a : Addr} {ps : List (Int × Int)} {h : Heap} (c : diB K a ps = true) (X : K.In h) : (a == sysModules) = false ∧ ∃ vs, h.DictOf (mixKind P w) a vs ∧
    ∀ i, (∀ j, ps.lookup i = some j → ∃ t, valueAt vs (.inl i) = some (.int j t)) ∧ (ps.lookup i = none → valueAt vs (.inl i) = none) := by
  unfold diB at c
  obtain ⟨c, c3⟩ := dec_and c
  obtain ⟨c1, c2⟩ := dec_and c
  refine ⟨by simpa using c1, ?_⟩
  split at c3
  · rename_i cn es ep sl q
    obtain ⟨c4, c5⟩ := dec_and c3
    obtain ⟨c4, c6⟩ := dec_and c4
    obtain ⟨vs, g1, g2, g3, g4⟩ := ents_ok (P := P) (w := w) c5
    refine ⟨vs, ⟨_, es, ep, X _ _ q, ⟨by rw [of_decide_eq_true c4], rfl, by simpa using c6⟩, rfl, ?_, g1, ?_⟩, g4⟩
    · intro e he
      exact g2 e (by simpa using he)
    · rw [g3]
      exact of_decide_eq_true c2
  · cases c3
section
variable {T : Tx} {xt : Xt} {X : Cx} {a : Addr} {ps : List (Int × Int)}
/-- i in D, D[i], D a module's dict -/
theorem op_gin (c : diB X.K a ps = true) : OpR X (compareOp .In) (fun x y H Q => y = .ref a ∧ r1 T xt (ginR ps) x H Q) := by
  rintro pins s σ H x y v u Q I rx ry ⟨rfl, F, ρ, m, w, R, hx, A⟩
  cases ry
  replace A : After T xt F ρ (ginR ps m w) (KV1 T Q) (fun _ _ _ => True) := A
  unfold ginR at A
  split at A
  · rename_i n
    obtain ⟨hd, vs, dd, look⟩ := diB_ok (P := X.prog) (w := X.w) c I.kIn
    have ex := RD.intV hx
    subst ex
    refine wpAny_in_of (knd := mixKind X.prog X.w) (k := .inl n) (kV_is (k := .inl n) rx) hd dd.mapOf ⟨.bl _, H, I.tok _, rfl, ?_⟩
    have e : (valueAt vs (.inl n : L2.Key)).isSome = (ps.lookup n).isSome := by
      cases z : ps.lookup n with
      | none => rw [(look n).2 z]; rfl
      | some j => obtain ⟨t, q⟩ := (look n).1 j z; rw [q]; rfl
    rw [e]
    exact fin_old A R (.bl _)
  · exact A.elim
theorem ix_gget (c : diB X.K a ps = true) : IxR X (fun x y H Q => x = .ref a ∧ r1 T xt (ggetR ps) y H Q) := by
  rintro value slice pins s σ H x y v u Q I rx ry ⟨rfl, F, ρ, m, w, R, hy, A⟩ hs
  cases rx
  replace A : After T xt F ρ (ggetR ps m w) (KV1 T Q) (fun _ _ _ => True) := A
  unfold ggetR at A
  split at A
  · rename_i n
    obtain ⟨hd, vs, dd, look⟩ := diB_ok (P := X.prog) (w := X.w) c I.kIn
    have ey := RD.intV hy
    subst ey
    split at A
    · rename_i j ej
      obtain ⟨t, q⟩ := (look n).1 j ej
      exact tail_any dd.typeIs PySem.F.slot_dict_getitem.lookup (wpAny_getItem_of (knd := mixKind X.prog X.w) (k := .inl n) (kV_is (k := .inl n) ry) dd.mapOf q ⟨.int j, H, I.tok _, ⟨t, rfl⟩, fin_old A R (.int j)⟩) hs
    · exact A.elim
  · exact A.elim
variable {W' : WX} {C : Calls} {σ : L2.St} {H : Hp} {e : E} {Q : VK} {x : String}
theorem s_gin (h : tE T xt W' (fun ws m => evE C ws m (.gin x ps e)) σ H Q) : tOp (fun x y H Q => y = .ref a ∧ r1 T xt (ginR ps) x H Q) (tE T xt W' fun ws m => evE C ws m e) (tC (.ref a)) σ H Q := by
  simp only [evE] at h
  refine tE_bind (f := fun ws x m => ginR ps m x) h fun F ρ m ws v w H1 R S hv A => ?_
  exact ⟨rfl, F, ρ, m, w, R, hv, A.imp (fun _ _ _ _ _ _ _ _ z => z) fun _ _ _ _ => trivial⟩
theorem s_gget (h : tE T xt W' (fun ws m => evE C ws m (.gget x ps e)) σ H Q) : tOp (fun x y H Q => x = .ref a ∧ r1 T xt (ggetR ps) y H Q) (tC (.ref a)) (tE T xt W' fun ws m => evE C ws m e) σ H Q := by
  simp only [evE] at h
  obtain ⟨F, ρ, m, ws, R, S, A⟩ := tE_bind (f := fun ws x m => ggetR ps m x) (R := fun y H2 => V.ref a = .ref a ∧ r1 T xt (ggetR ps) y H2 Q) h fun F ρ m ws v w H1 R S hv A =>
    ⟨rfl, F, ρ, m, w, R, hv, A.imp (fun _ _ _ _ _ _ _ _ z => z) fun _ _ _ _ => trivial⟩
  exact ⟨F, ρ, m, ws, R, S, A⟩
end
end Cn

/-! # built-ins -/
namespace Cn
open PySem PySem.Spec PyProof.Rows L2
/-- a call of one value -/
def rC1 (T : Tx) (xt : Xt) (f : Mu → W → Res W) : List V → Hp → VK → Prop := fun xs H Q => ∃ x, xs = [x] ∧ r1 T xt f x H Q
def rC2 (T : Tx) (xt : Xt) (f : Mu → W → W → Res W) : List V → Hp → VK → Prop := fun xs H Q => ∃ x y, xs = [x, y] ∧ r2 T xt f x y H Q
section
variable {T : Tx} {F H : Hp} {ρ : Ro} {m : Mu}
theorem blDs_at : ∀ {vs : List V} {xs : List D} {bs : List Bool}, RDs T F vs xs → blDs xs = some bs → vs = bs.map V.bl
  | _, _, _, .nil, e => by cases e; rfl
  | _, _, _, .cons (x := x) (xs := xs) h t, e => by
    unfold blDs at e
    split at e
    · rename_i i is' e1 e2
      cases e
      have := blDs_at t e2
      cases h <;> cases e1
      rw [this]
      rfl
    · cases e
theorem intDs_at : ∀ {vs : List V} {xs : List D} {bs : List Int}, RDs T F vs xs → intDs xs = some bs → vs = bs.map V.int
  | _, _, _, .nil, e => by cases e; rfl
  | _, _, _, .cons (x := x) (xs := xs) h t, e => by
    unfold intDs at e
    split at e
    · rename_i i is' e1 e2
      cases e
      have := intDs_at t e2
      cases h <;> cases e1
      rw [this]
      rfl
    · cases e
/-- a list that is to be read -/
theorem Rel.lstH (R : Rel T F ρ H m) {v : V} {w : W} {xs : List D} (hw : RW T F ρ v w) (e : rd m w = some (.lst xs)) : ∃ a vs, v = .ref a ∧ Rd H a (.lst vs) ∧ RDs T F vs xs := by
  cases w with
  | d y =>
    cases e
    obtain ⟨a, vs, rfl, ha, h⟩ := RD.seqL hw
    exact ⟨a, vs, rfl, R.sub.rd ha, h⟩
  | kt y => cases e; cases hw
  | h k =>
    obtain ⟨p', e1, rfl⟩ := hw
    simp only [rd] at e
    split at e
    · rename_i r hr
      split at e
      · rename_i ys hl
        cases e
        obtain ⟨us, g1, g2⟩ := R.lstD e1 hr hl
        exact ⟨_, us, rfl, .inl g1, g2⟩
      · cases e
    · cases e
  | hi k f =>
    obtain ⟨a', e1, rfl⟩ := hw
    simp only [rd] at e
    split at e
    · rename_i ys hy
      cases e
      obtain ⟨g, hg, hf⟩ := inAt_some hy
      obtain ⟨p, u, _, _, g1, ⟨us, rfl, g2⟩, _⟩ := R.roI e1 hg hf
      exact ⟨_, us, rfl, .inl g1, g2⟩
    · cases e
  | clo _ _ => cases e
/-- a tuple that is to be read -/
theorem Rel.tupH (R : Rel T F ρ H m) {v : V} {w : W} {xs : List D} (hw : RW T F ρ v w) (e : rd m w = some (.tup xs)) : ∃ a vs, v = .ref a ∧ SqT T.K H a vs ∧ vs.length = xs.length ∧ ((∃ y, w = .d y ∧ RDs T F vs xs) ∨ (∃ y, w = .kt y) ∧ RKs T.K vs xs) := by
  cases w with
  | d y =>
    cases e
    obtain ⟨a, vs, rfl, ha, h⟩ := RD.seqT hw
    exact ⟨a, vs, rfl, .of (R.sub _ _ ha), h.length, .inl ⟨_, rfl, h⟩⟩
  | kt y =>
    cases e
    cases hw with
    | tup a b => exact ⟨_, _, rfl, a H, b.length, .inr ⟨⟨_, rfl⟩, b⟩⟩
  | h k =>
    simp only [rd] at e
    split at e
    · split at e <;> cases e
    · cases e
  | hi k f =>
    simp only [rd] at e
    split at e <;> cases e
  | clo _ _ => cases e
theorem foldl_max (is : List Int) : ∀ i : Int, (is.foldl max i ∈ i :: is) ∧ ∀ y ∈ i :: is, y ≤ is.foldl max i := by
  induction is with
  | nil => intro i; simp
  | cons a r ih =>
    intro i
    obtain ⟨h1, h2⟩ := ih (max i a)
    have h1' : r.foldl max (max i a) ∈ max i a :: r := h1
    refine ⟨?_, fun y hy => ?_⟩
    · show r.foldl max (max i a) ∈ i :: a :: r
      rcases List.mem_cons.mp h1' with e | e
      · rw [e]
        rcases Int.le_total i a with q | q
        · rw [Int.max_eq_right q]; simp
        · rw [Int.max_eq_left q]; simp
      · exact List.mem_cons_of_mem _ (List.mem_cons_of_mem _ e)
    · show y ≤ r.foldl max (max i a)
      have base := h2 (max i a) List.mem_cons_self
      rcases List.mem_cons.mp hy with e | hy
      · rw [e]; exact Int.le_trans (Int.le_max_left _ _) base
      · rcases List.mem_cons.mp hy with e | hy
        · rw [e]; exact Int.le_trans (Int.le_max_right _ _) base
        · exact h2 y (List.mem_cons_of_mem _ hy)
theorem strI_eq (i : Int) : (strV (strI i)) = (toString i : Str) := by
  have hs : ∀ s : String, (s : Str) = ⟨(s.toList.map Char.toNat).toArray⟩ := by
    intro s
    exact Str.ofString_eq_toList s
  cases i with
  | ofNat n =>
    show strV (digits n) = ((toString (Int.ofNat n) : String) : Str)
    rw [hs]
    show strV (digits n) = ⟨(((Nat.repr n).toList).map Char.toNat).toArray⟩
    unfold Nat.repr digits strV
    simp
  | negSucc n =>
    show strV (45 :: digits (n + 1)) = ((toString (Int.negSucc n) : String) : Str)
    rw [hs]
    show strV (45 :: digits (n + 1)) = ⟨((("-" ++ Nat.repr (n + 1) : String).toList).map Char.toNat).toArray⟩
    unfold Nat.repr digits strV
    simp
end
section
variable {T : Tx} {xt : Xt} {X : Cx}
def biV : Bi → Value
  | .len => .builtin "len"
  | .ord => .builtin "ord"
  | .tuple => .type "tuple"
  | .any => .builtin "any"
  | .all => .builtin "all"
  | .str => .type "str"
  | .int => .type "int"
  | .max => .builtin "max"
theorem ref_rel {a : Addr} {v : Value} (h : RelV (.ref a) v) : v = .ref a := h
theorem call_b1 (hK : X.K = T.K) (hc : X.calm = true) (b : Bi) : CallR X (biV b) (rC1 T xt fun m => b1R m b) := by
  rintro pins s σ H xs us Q I rv ⟨x, rfl, F, ρ, m, w, R, hx, A⟩
  replace A : After T xt F ρ (b1R m b w) (KV1 T Q) (fun _ _ _ => True) := A
  unfold b1R at A
  split at A
  · -- len
    split at A
    · rename_i ws e
      obtain ⟨g, A⟩ := guard_ok A
      have gz := of_decide_eq_true g
      refine call_len pins s σ H _ us Q I rv ⟨x, ws.length, rfl, ?_, fin_old A R (.int _)⟩
      unfold items at e
      split at e
      · split at e
        · cases e
          cases hx with
          | tup a b => exact .inr ⟨_, by rw [hK]; exact a H, by rw [List.length_map]; exact b.length.symm⟩
        · cases e
      · cases e
        cases hx
        refine ⟨?_, by rw [strV_len]; simp⟩
        rw [strV_len]
        rw [List.length_map] at gz
        exact gz
      · cases e
        obtain ⟨a, vs, rfl, ha, h1⟩ := RD.seqT hx
        exact .inr ⟨vs, .of (R.sub _ _ ha), by rw [List.length_map]; exact h1.length.symm⟩
      · split at e
        · rename_i ys ey
          cases e
          obtain ⟨a, vs, rfl, ha, h1⟩ := R.lstH hx ey
          exact .inl ⟨vs, .inl ha, by rw [List.length_map]; exact h1.length.symm⟩
        · cases e
    · exact A.elim
  · cases hx
    refine call_ord pins s σ H _ us Q I rv ⟨_, rfl, by rw [strV_len]; rfl, ?_⟩
    exact fin_old A R (.int _)
  · split at A
    · rename_i xs e
      obtain ⟨a, vs, rfl, ha, h1⟩ := R.lstH hx e
      exact call_tuple_of pins s σ H _ us Q I rv ⟨a, vs, rfl, .inl ⟨.inl ha, fun p n => fin_tup A R h1 n⟩⟩
    · exact A.elim
  · split at A
    · rename_i xs e
      split at A
      · rename_i bs eb
        obtain ⟨a, vs, rfl, ha, h1⟩ := R.lstH hx e
        have := blDs_at h1 eb
        subst this
        exact cr_any hc pins s σ H _ us Q I rv ⟨a, bs, rfl, .inl ha, fin_old A R (.bl _)⟩
      · exact A.elim
    · exact A.elim
  · split at A
    · rename_i xs e
      split at A
      · rename_i bs eb
        obtain ⟨a, vs, rfl, ha, h1⟩ := R.lstH hx e
        have := blDs_at h1 eb
        subst this
        exact cr_all hc pins s σ H _ us Q I rv ⟨a, bs, rfl, .inl ha, fin_old A R (.bl _)⟩
      · exact A.elim
    · exact A.elim
  · split at A
    · rename_i xs e
      split at A
      · rename_i i is eb
        obtain ⟨a, vs, rfl, ha, h1⟩ := R.lstH hx e
        have := intDs_at h1 eb
        subst this
        refine cr_max hc pins s σ H _ us Q I rv ⟨a, i :: is, rfl, .inl ha, by simp, fun k hk hm => ?_⟩
        obtain ⟨f1, f2⟩ := foldl_max is i
        have : k = is.foldl max i := Int.le_antisymm (f2 k hk) (hm _ f1)
        rw [this]
        exact fin_old A R (.int _)
      · exact A.elim
    · exact A.elim
  · rename_i i
    obtain ⟨g, A⟩ := guard_ok A
    have ex := RD.intV hx
    subst ex
    refine call_str_int pins s σ H _ us Q I rv ⟨i, rfl, ?_, ?_⟩
    · have g' := of_decide_eq_true g
      by_cases z : i.natAbs = 0
      · rw [z]; decide
      · have h1 : i.natAbs.log2 < 1919 := (Nat.log2_lt z).mpr g'
        omega
    · rw [← strI_eq]
      exact fin_old A R (.str _)
  · cases hx
    refine call_int1 pins s σ H _ us Q I rv (.inr ⟨_, rfl, ?_⟩)
    exact fin_old A R (.int _)
  · exact A.elim
theorem call_dm : CallR X (.builtin "divmod") (rC2 T xt dmR) := by
  rintro pins s σ H xs us Q I rv ⟨x, y, rfl, F, ρ, m, w, u, R, hx, hy, A⟩
  replace A : After T xt F ρ (dmR m w u) (KV1 T Q) (fun _ _ _ => True) := A
  unfold dmR at A
  split at A
  · obtain ⟨g, A⟩ := guard_ok A
    obtain ⟨g1, g2⟩ := dec_and g
    cases hx
    cases hy
    exact call_divmod pins s σ H _ us Q I rv ⟨_, _, rfl, ⟨of_decide_eq_true g1, of_decide_eq_true g2⟩, fun p n => fin_tup A R (.cons (.int _) (.cons (.int _) .nil)) n⟩
  · exact A.elim
end
end Cn

/-! # lists that change -/
namespace Cn
open PySem PySem.Spec PyProof.Rows L2
section
variable {T : Tx} {F H : Hp} {ρ : Ro} {m : Mu}
theorem getElem?_set_of {α : Type} {l : List α} {i j : Nat} {a b : α} (h : (l.set i a)[j]? = some b) : (i = j ∧ a = b) ∨ (i ≠ j ∧ l[j]? = some b) := by
  by_cases e : i = j
  · subst e
    have hl : i < l.length := by
      have := (List.getElem?_eq_some_iff.mp h).1
      simpa using this
    rw [List.getElem?_set_self hl] at h
    cases h
    exact .inl ⟨rfl, rfl⟩
  · rw [List.getElem?_set_ne e] at h
    exact .inr ⟨e, h⟩
/-- a plain object goes over into another -/
theorem Rel.adopt1 (R : Rel T F ρ H m) {n k : Nat} {p q : Addr × List Addr} {g : Gr} {o : Fo} (hne : k ≠ n) (e : ρ[n]? = some p) (hg : m[n]? = some (some g)) (eq : ρ[k]? = some q) (hk : m[k]? = some (some ⟨.o o, []⟩)) :
    Rel T F (ρ.set n (p.1, p.2 ++ [q.1])) H ((m.set n (some { g with inn := g.inn ++ [some o] })).set k none) := by
  obtain ⟨ow, hx⟩ := R.ex
  have hn := hx n p g e hg
  have hq := hx k q _ eq hk
  obtain ⟨uo, ho, hro⟩ := hq.root
  refine ⟨R.sub, by simp [R.len], ⟨fun b => if b = q.1 then (n, some g.inn.length) else ow b, fun j p' g' e' q' => ?_⟩, R.sd, R.sf⟩
  have nq : ∀ {b : Addr} {y : Nat × Option Nat}, ow b = y → y ≠ (k, none) → b ≠ q.1 := fun {b y} h1 h2 z => by
    rw [z, hq.own] at h1
    exact h2 h1.symm
  rcases getElem?_set_of q' with ⟨_, z⟩ | ⟨hkj, q'⟩
  · cases z
  rcases getElem?_set_of q' with ⟨rfl, z⟩ | ⟨hnj, q'⟩
  · cases z
    rcases getElem?_set_of e' with ⟨_, z⟩ | ⟨hb, _⟩
    · cases z
      obtain ⟨u1, h1, h1'⟩ := hn.root
      refine ⟨(if_neg (nq hn.own (by simp [Ne.symm hne]))).trans hn.own, hn.fr, ⟨u1, h1, RR.mono Le.rfl' [q.1] h1'⟩, by simp [hn.len], fun f b o' e1 e2 => ?_, hn.sd.1, fun f b o' e1 e2 => ?_⟩
      rotate_left
      · have e1' : (p.2 ++ [q.1])[f]? = some b := e1
        have e2' : (g.inn ++ [some o])[f]? = some (some o') := e2
        by_cases hf : f < p.2.length
        · rw [List.getElem?_append_left hf] at e1'
          rw [List.getElem?_append_left (by rw [← hn.len]; exact hf)] at e2'
          exact hn.sd.2 f b o' e1' e2'
        · have hlt := (List.getElem?_eq_some_iff.mp e1').1
          simp at hlt
          have hfe : f = p.2.length := by omega
          subst hfe
          rw [List.getElem?_append_right (Nat.le_refl _)] at e1'
          simp at e1'
          subst e1'
          exact hq.sd.1
      by_cases hf : f < p.2.length
      · have e1' : (p.2 ++ [q.1])[f]? = some b := e1
        have e2' : (g.inn ++ [some o])[f]? = some (some o') := e2
        rw [List.getElem?_append_left hf] at e1'
        rw [List.getElem?_append_left (by rw [← hn.len]; exact hf)] at e2'
        obtain ⟨k1, k2, u, k3, k4⟩ := hn.inn f b o' e1' e2'
        exact ⟨(if_neg (nq k1 (by simp))).trans k1, k2, u, k3, k4⟩
      · have e1' : (p.2 ++ [q.1])[f]? = some b := e1
        have e2' : (g.inn ++ [some o])[f]? = some (some o') := e2
        have hlt := (List.getElem?_eq_some_iff.mp e1').1
        simp at hlt
        have hfe : f = p.2.length := by omega
        subst hfe
        rw [List.getElem?_append_right (Nat.le_refl _)] at e1'
        rw [hn.len, List.getElem?_append_right (Nat.le_refl _)] at e2'
        simp at e1' e2'
        subst e1' e2'
        exact ⟨by rw [hn.len]; simp, hq.fr, uo, ho, hro⟩
    · exact absurd rfl hb
  · rcases getElem?_set_of e' with ⟨hb, _⟩ | ⟨_, e'⟩
    · exact absurd hb hnj
    · obtain ⟨h1, h2, h3, h4, h5, h6⟩ := hx j p' g' e' q'
      refine ⟨(if_neg (nq h1 (by simp [Ne.symm hkj]))).trans h1, h2, h3, h4, fun f b u e1 e2 => ?_, h6⟩
      obtain ⟨k1, k2, u', k3, k4⟩ := h5 f b u e1 e2
      exact ⟨(if_neg (nq k1 (by simp))).trans k1, k2, u', k3, k4⟩
theorem RoLe.setInn {n : Nat} {p : Addr × List Addr} {a : Addr} (e : ρ[n]? = some p) : RoLe ρ (ρ.set n (p.1, p.2 ++ [a])) := by
  refine ⟨by simp, fun j q eq => ?_⟩
  by_cases h : n = j
  · subst h
    rw [e] at eq
    cases eq
    exact ⟨[a], by rw [List.getElem?_set_self (List.getElem?_eq_some_iff.mp e).1]⟩
  · exact ⟨[], by rw [List.getElem?_set_ne h, eq]; simp⟩
/-- what is stored goes over: the new places, the value as a thing of the object n -/
theorem Rel.adopt (R : Rel T F ρ H m) {n : Nat} {p : Addr × List Addr} {g : Gr} {v : V} {w : W} (e : ρ[n]? = some p) (hg : m[n]? = some (some g)) (hv : RW T F ρ v w) {u : U} {m' : Mu} (ha : adopt m n w = .ok u m') :
    ∃ ρ' p' g', Rel T F ρ' H m' ∧ RoLe ρ ρ' ∧ ρ'[n]? = some p' ∧ p'.1 = p.1 ∧ m'[n]? = some (some g') ∧ g'.root = g.root ∧ RU T F p'.2 v u ∧ ∃ as, p'.2 = p.2 ++ as := by
  unfold Cn.adopt at ha
  split at ha
  · cases ha
    exact ⟨ρ, p, g, R, .rfl', e, rfl, hg, rfl, hv, [], by simp⟩
  · rename_i k
    split at ha
    · cases ha
    · rename_i hne
      split at ha
      · rename_i o g1 hk hg1
        cases ha
        have hk' := grAt_some hk
        have hg1' := grAt_some hg1
        rw [hg] at hg1'
        cases hg1'
        obtain ⟨q, eq, rfl⟩ := hv
        have hn := (R.at e hg).choose_spec
        refine ⟨_, (p.1, p.2 ++ [q.1]), { g with inn := g.inn ++ [some o] }, R.adopt1 hne e hg eq hk', RoLe.setInn e, List.getElem?_set_self (List.getElem?_eq_some_iff.mp e).1, rfl, ?_, ?_, ⟨q.1, ?_, rfl⟩, [q.1], rfl⟩
        · rw [List.getElem?_set_ne hne, List.getElem?_set_self (List.getElem?_eq_some_iff.mp hg).1]
        · rfl
        · show (p.2 ++ [q.1])[g.inn.length]? = some q.1
          rw [← hn.len, List.getElem?_append_right (Nat.le_refl _)]
          simp
      · cases ha
  · cases ha
/-- the plain object behind a value: where it stands, what it is set to -/
theorem Rel.fo (R : Rel T F ρ H m) {v : V} {w : W} {o : Fo} (hw : RW T F ρ v w) (e : foAt m w = some o) : ∃ a ho, v = .ref a ∧ H a = some ho ∧ RF T F o ho ∧ ∀ o' ho', RF T F o' ho' → Rel T F ρ (upd H a ho') (setFo m o' w) := by
  unfold foAt at e
  split at e
  · rename_i n
    split at e
    · rename_i o1 hr
      cases e
      obtain ⟨p, e1, rfl⟩ := hw
      obtain ⟨g, hg, hq⟩ := rootAt_some hr
      obtain ⟨ho, h1, h2⟩ := R.rootFo e1 hr
      exact ⟨_, ho, rfl, h1, h2, fun o' ho' r => R.setRoot e1 hg r⟩
    · cases e
  · rename_i n f
    obtain ⟨a, e1, rfl⟩ := hw
    obtain ⟨g, hg, hf⟩ := inAt_some e
    obtain ⟨p, u, z, e2, h1, h2, _⟩ := R.roI e1 hg hf
    exact ⟨a, u, rfl, h1, h2, fun o' ho' r => R.setIn z hg e2 hf r⟩
  · cases e
end
section
variable {T : Tx} {xt : Xt} {X : Cx}
def rM1 (T : Tx) (xt : Xt) (f : Mu → W → W → Res W) : V → List V → Hp → VK → Prop := fun x xs H Q => ∃ y, xs = [y] ∧ r2 T xt f x y H Q
def rM0 (T : Tx) (xt : Xt) (f : Mu → W → Res W) : V → List V → Hp → VK → Prop := fun x xs H Q => xs = [] ∧ r1 T xt f x H Q
theorem appFo_R {pins : List (Addr × Obj)} {s : Shared} {σ : L2.St} {H : Hp} {x y : V} {v : Value} {us : List Value} {Q : VK} {F : Hp} {ρ : Ro} {m : Mu} {w u : W} {e : XK} (I : Inv X pins σ H s) (rx : RelV x v) (rv : Vals [y] us)
    (R : Rel T F ρ H m) (hx : RW T F ρ x w) (hy : RW T F ρ y u) (A : After T xt F ρ (appFo m w u) (KV1 T Q) e) : wpAny (model X.prog X.w) X.A (call (.builtin "list.append") (v :: us)) (EP X pins σ Q) X.xe s := by
  unfold appFo at A
  split at A
  · rename_i xs d ef
    obtain ⟨g, A⟩ := guard_ok A
    obtain ⟨a, ho, rfl, h1, ⟨vs, rfl, h2⟩, h3⟩ := R.fo hx ef
    refine mt_append pins s σ H _ _ v us Q I rx rv ⟨a, vs, y, rfl, rfl, h1, by rw [h2.length]; exact of_decide_eq_true g, ?_⟩
    exact A F ρ _ (h3 _ _ ⟨_, rfl, h2.append (.cons hy .nil)⟩) Le.rfl' .rfl' _ .non
  · exact A.elim
theorem mt_app : MtR X "list.append" (rM1 T xt appR) := by
  rintro pins s σ H x xs v us Q I rx rv ⟨y, rfl, F, ρ, m, w, u, R, hx, hy, A⟩
  unfold appR at A
  split at A
  · rename_i n
    split at A
    · rename_i us' hr
      obtain ⟨g, A⟩ := guard_ok A
      obtain ⟨p, e1, rfl⟩ := hx
      obtain ⟨gr, hg, hq⟩ := rootAt_some hr
      obtain ⟨vs, h1, h2⟩ := R.rootLst e1 hr
      cases ea : adopt m n u with
      | ok z m' =>
        rw [ea] at A
        obtain ⟨ρ', p', g', R', le, e1', ep, hg', hroot, hz, as, eas⟩ := R.adopt e1 hg hy ea
        refine mt_append pins s σ H _ _ v us Q I rx rv ⟨p.1, vs, y, rfl, rfl, h1, ?_, ?_⟩
        · rw [PairedLen h2]; exact of_decide_eq_true g
        · have := R'.setRoot (ob := .lst (us' ++ [z])) (ho := .lst (vs ++ [y])) e1' hg' ⟨_, rfl, ?_⟩
          · rw [ep] at this
            exact A F ρ' _ this Le.rfl' le _ .non
          · have h2' := RUs.mono (F' := F) (bs := as) Le.rfl' h2
            rw [← eas] at h2'
            exact Paired.snoc h2' hz
      | exc z m' =>
        unfold adopt at ea
        split at ea
        · cases ea
        · split at ea
          · cases ea
          · split at ea <;> cases ea
        · cases ea
      | stuck => rw [ea] at A; exact A.elim
    · exact appFo_R I rx rv R hx hy A
  · exact appFo_R I rx rv R hx hy A
theorem mt_ext : MtR X "list.extend" (rM1 T xt extR) := by
  rintro pins s σ H x xs v us Q I rx rv ⟨y, rfl, F, ρ, m, w, u, R, hx, hy, A⟩
  unfold extR at A
  split at A
  · rename_i xs ys ef
    obtain ⟨g, A⟩ := guard_ok A
    obtain ⟨a, ho, rfl, h1, ⟨vs, rfl, h2⟩, h3⟩ := R.fo hx ef
    obtain ⟨b, zs, rfl, hb, h4⟩ := RD.seqL hy
    have l2 := h2.length
    have l4 := h4.length
    have fin := A F ρ _ (h3 _ _ ⟨_, rfl, h2.append h4⟩) Le.rfl' .rfl' _ .non
    have hz : vs.length + zs.length ≤ sizeLine := by rw [l2, l4]; exact of_decide_eq_true g
    rcases hb with hb | ⟨ob, hb⟩
    · exact mt_extend pins s σ H _ _ v us Q I rx rv ⟨a, b, vs, zs, rfl, rfl, h1, R.sub _ _ hb, hz, fin⟩
    · -- a list that was handed in
      cases rx
      obtain ⟨u', rfl, ru⟩ := rv.one
      cases ru
      obtain ⟨z, its, n, r, hl, e⟩ := I.lstM h1
      obtain ⟨z2, its2, n2, r2, e2⟩ := (Rd.ok (u := .lst zs) (.inr ⟨ob, R.sub _ _ hb⟩) I.hok)
      have hl2 := r2.length
      have hsz : its.toArray.size + its2.toArray.size ≤ sizeLine := by rw [List.size_toArray, List.size_toArray]; omega
      have hlong : ¬ (!its.toArray.isEmpty && Builtin.List.listTooLong (its.toArray.size + its2.toArray.size)) = true := by
        rw [notLongL hsz, Bool.and_false]
        exact Bool.false_ne_true
      refine call_meets PySem.F.slot_list_extend ⟨_, e, rfl⟩ PySem.F.entry_list_extend (PySem.F.args_list_extend_2 _ _)
        (AutoSeq1.list_extend_list_list_0 a its.toArray n b its2.toArray n2 hlong (by rw [List.size_toArray]; omega) (by omega)) ⟨e, e2, ?_⟩
      refine ⟨.non, _, I.lset (its' := its ++ its2) h1 e (by simp) (r.append r2) ?_, rfl, fin⟩
      rw [List.length_append]
      omega
  · exact A.elim
theorem mt_popR : MtR X "list.pop" (rM0 T xt popR) := by
  rintro pins s σ H x xs v us Q I rx rv ⟨rfl, F, ρ, m, w, R, hx, A⟩
  unfold popR at A
  split at A
  · rename_i n
    split at A
    · rename_i us' hr
      obtain ⟨p, e1, rfl⟩ := hx
      obtain ⟨gr, hg, hq⟩ := rootAt_some hr
      obtain ⟨vs, h1, h2⟩ := R.rootLst e1 hr
      split at A
      · rename_i z ez
        have hl := PairedLen h2
        rw [← hl] at ez
        obtain ⟨y, ey, hy⟩ : ∃ y, vs[vs.length - 1]? = some y ∧ RU T F p.2 y z := by
          have : atZ us' ((vs.length - 1 : Nat) : Int) = some z := by
            unfold atZ ixZ
            have hz := (List.getElem?_eq_some_iff.mp ez).1
            rw [if_pos (by omega), if_pos (by omega)]
            simpa using ez
          obtain ⟨y, e2, hy⟩ := h2.atI this
          refine ⟨y, ?_, hy⟩
          unfold L2.atI L2.ixN at e2
          have hz := (List.getElem?_eq_some_iff.mp ez).1
          rw [if_pos (by omega), if_pos (by omega)] at e2
          simpa using e2
        refine mt_pop pins s σ H _ _ v us Q I rx rv ⟨p.1, vs, y, rfl, rfl, h1, ey, ?_⟩
        have R' := R.setRoot (ob := .lst us'.dropLast) (ho := .lst vs.dropLast) e1 hg ⟨_, rfl, ?_⟩
        · exact A F ρ _ R' Le.rfl' .rfl' _ (toU_rw e1 hy)
        · clear ez ey R h1 hr A hq hl rv rx I
          induction h2 with
          | nil => exact .nil
          | cons a b ih =>
            cases b with
            | nil => exact .nil
            | cons c d => exact .cons a ih
      · exact A.elim
    · rename_i xs hr
      obtain ⟨p, e1, rfl⟩ := hx
      obtain ⟨gr, hg, hq⟩ := rootAt_some hr
      obtain ⟨ho, h1, vs, rfl, h2⟩ := R.rootFo e1 hr
      split at A
      · rename_i z ez
        rw [← h2.length] at ez
        obtain ⟨y, ey, hy⟩ := h2.get ez
        refine mt_pop pins s σ H _ _ v us Q I rx rv ⟨p.1, vs, y, rfl, rfl, h1, ey, ?_⟩
        exact A F ρ _ (R.setRoot e1 hg ⟨_, rfl, h2.dropLast⟩) Le.rfl' .rfl' _ hy
      · exact A.elim
    · exact A.elim
  · exact A.elim
/-- a list that may change is a list -/
theorem isLst_ty {K : PySem.W.Frag} {F H : Hp} {ρ : Ro} {m : Mu} (R : Rel T F ρ H m) {v : V} {w : W} (hw : RW T F ρ v w) (h : isLst m w = true) : tyV K "list" v H := by
  unfold isLst at h
  split at h
  · split at h
    · rename_i n us hr
      obtain ⟨p, e1, rfl⟩ := hw
      obtain ⟨vs, h1, _⟩ := R.rootLst e1 hr
      exact .inl ⟨rfl, vs, .of h1⟩
    · rename_i n xs hr
      obtain ⟨p, e1, rfl⟩ := hw
      obtain ⟨ho, h1, vs, rfl, _⟩ := R.rootFo e1 hr
      exact .inl ⟨rfl, vs, .of h1⟩
    · cases h
  · split at h
    · rename_i n f xs hr
      obtain ⟨a, e1, rfl⟩ := hw
      obtain ⟨g, hg, hf⟩ := inAt_some hr
      obtain ⟨p, uo, _, _, h1, ⟨vs, rfl, _⟩, _⟩ := R.roI e1 hg hf
      exact .inl ⟨rfl, vs, .of h1⟩
    · cases h
  · cases h
theorem popR_ty {K : PySem.W.Frag} {F H : Hp} {ρ : Ro} {m : Mu} {Q : VK} {e : XK} (R : Rel T F ρ H m) {v : V} {w : W} (hw : RW T F ρ v w) (A : After T xt F ρ (popR m w) (KV1 T Q) e) : tyV K "list" v H := by
  refine isLst_ty R hw ?_
  unfold popR at A
  split at A
  · rename_i n
    unfold isLst
    split at A
    · rename_i us hr; simp only [hr]
    · rename_i us hr; simp only [hr]
    · exact A.elim
  · exact A.elim
end
section
variable {T : Tx} {xt : Xt} {X : Cx} {W' : WX} {C : Calls} {σ : L2.St} {H : Hp} {a b : E} {Q : VK}
theorem s_app (h : tE T xt W' (fun ws m => evE C ws m (.app a b)) σ H Q) : tBM X.K "list" (rM1 T xt appR) (tE T xt W' fun ws m => evE C ws m a) (tCons (tE T xt W' fun ws m => evE C ws m b) tNil) σ H Q := by
  simp only [evE] at h
  refine tE_bind (f := fun ws x m => guardR (isLst m x) ((evE C ws m b).bind fun y m => appR m x y)) h fun F ρ m ws v w H1 R S hv A => ?_
  obtain ⟨g, A⟩ := guard_ok A
  refine ⟨isLst_ty R hv g, F, ρ, m, ws, R, S, A.bind.imp (fun F1 ρ1 H2 m1 u r1 l1 g1 k y hy => ?_) fun _ _ _ z => z⟩
  exact ⟨y, rfl, F1, ρ1, m1, w, u, r1, hv.mono l1 g1, hy, k.imp (fun _ _ _ _ _ _ _ _ z => z) fun _ _ _ _ => trivial⟩
theorem s_ext (h : tE T xt W' (fun ws m => evE C ws m (.ext a b)) σ H Q) : tBM X.K "list" (rM1 T xt extR) (tE T xt W' fun ws m => evE C ws m a) (tCons (tE T xt W' fun ws m => evE C ws m b) tNil) σ H Q := by
  simp only [evE] at h
  refine tE_bind (f := fun ws x m => guardR (isLst m x) ((evE C ws m b).bind fun y m => extR m x y)) h fun F ρ m ws v w H1 R S hv A => ?_
  obtain ⟨g, A⟩ := guard_ok A
  refine ⟨isLst_ty R hv g, F, ρ, m, ws, R, S, A.bind.imp (fun F1 ρ1 H2 m1 u r1 l1 g1 k y hy => ?_) fun _ _ _ z => z⟩
  exact ⟨y, rfl, F1, ρ1, m1, w, u, r1, hv.mono l1 g1, hy, k.imp (fun _ _ _ _ _ _ _ _ z => z) fun _ _ _ _ => trivial⟩
theorem s_pop (h : tE T xt W' (fun ws m => evE C ws m (.pop a)) σ H Q) : tBM0 X.K "list" (rM0 T xt popR) (tE T xt W' fun ws m => evE C ws m a) σ H Q := by
  simp only [evE] at h
  refine tE_bind (f := fun ws x m => popR m x) h fun F ρ m ws v w H1 R S hv A => ?_
  exact ⟨popR_ty R hv A, rfl, F, ρ, m, w, R, hv, A.imp (fun _ _ _ _ _ _ _ _ z => z) fun _ _ _ _ => trivial⟩
theorem s_b1 {bi : Bi} (h : tE T xt W' (fun ws m => evE C ws m (.b1 bi a)) σ H Q) : tCB (rC1 T xt fun m => b1R m bi) (tCons (tE T xt W' fun ws m => evE C ws m a) tNil) σ H Q := by
  simp only [evE] at h
  refine tE_bind (f := fun ws x m => b1R m bi x) h fun F ρ m ws v w H1 R S hv A => ?_
  exact ⟨v, rfl, F, ρ, m, w, R, hv, A.imp (fun _ _ _ _ _ _ _ _ z => z) fun _ _ _ _ => trivial⟩
theorem s_dm (h : tE T xt W' (fun ws m => evE C ws m (.dm a b)) σ H Q) : tCB (rC2 T xt dmR) (tCons (tE T xt W' fun ws m => evE C ws m a) (tCons (tE T xt W' fun ws m => evE C ws m b) tNil)) σ H Q := by
  simp only [evE] at h
  refine tE_bind (f := fun ws x m => (evE C ws m b).bind fun y m => dmR m x y) h fun F ρ m ws v w H1 R S hv A => ?_
  refine ⟨F, ρ, m, ws, R, S, A.bind.imp (fun F1 ρ1 H2 m1 u r1 l1 g1 k y hy => ?_) fun _ _ _ z => z⟩
  exact ⟨v, y, rfl, F1, ρ1, m1, w, u, r1, hv.mono l1 g1, hy, k.imp (fun _ _ _ _ _ _ _ _ z => z) fun _ _ _ _ => trivial⟩
theorem s_ix (h : tE T xt W' (fun ws m => evE C ws m (.ix a b)) σ H Q) : tOp (r2 T xt ixR) (tE T xt W' fun ws m => evE C ws m a) (tE T xt W' fun ws m => evE C ws m b) σ H Q := by
  simp only [evE] at h
  exact tOp_of h
end
end Cn

/-! # what is walked: loops, comprehensions -/
namespace Cn
open PySem PySem.Spec PyProof.Rows L2
abbrev Tx.wi (T : Tx) (s : Hp) : Tx := { T with side := s }
section
variable {T : Tx} {s : Hp} {F H : Hp} {ρ : Ro} {m : Mu}
mutual
theorem RD.wi : ∀ {v : V} {x : D}, RD T F v x → RD (T.wi s) F v x
  | _, _, .non => .non
  | _, _, .bl b => .bl b
  | _, _, .int i => .int i
  | _, _, .str cs => .str cs
  | _, _, .tup h r => .tup h (RDs.wi r)
  | _, _, .lst h r => .lst h (RDs.wi r)
  | _, _, .ins h n r => .ins (T := T.wi s) h n (RDs.wi r)
  | _, _, .dK h n r => .dK h n (RDs.wi r)
  | _, _, .dT h n r => .dT h n (RDs.wi r)
theorem RDs.wi : ∀ {vs : List V} {xs : List D}, RDs T F vs xs → RDs (T.wi s) F vs xs
  | _, _, .nil => .nil
  | _, _, .cons h r => .cons (RD.wi h) (RDs.wi r)
end
theorem RW.wi {v : V} : ∀ {w : W}, RW T F ρ v w → RW (T.wi s) F ρ v w
  | .d _, r => RD.wi r
  | .kt _, r => r
  | .h n, r => r
  | .hi n f, r => r
  | .clo _ _, r => r
theorem RSl.wi {σ : L2.St} {ws : Sl} (r : RSl T F ρ σ ws) : RSl (T.wi s) F ρ σ ws := ⟨r.1, fun i w e => by
  obtain ⟨v, e1, q⟩ := r.2 i w e
  exact ⟨v, e1, q.wi⟩⟩
theorem RU.wi {as : List Addr} {v : V} : ∀ {u : U}, RU T F as v u → RU (T.wi s) F as v u
  | .d _, r => RD.wi r
  | .i f, r => r
theorem RUs.wi {as : List Addr} : ∀ {vs : List V} {us : List U}, RUs T F as vs us → RUs (T.wi s) F as vs us
  | _, _, .nil => .nil
  | _, _, .cons r t => .cons (RU.wi r) (RUs.wi t)
theorem RF.wi {f : Fo} {o : HO} (r : RF T F f o) : RF (T.wi s) F f o := by
  cases f with
  | lst xs => obtain ⟨vs, e, q⟩ := r; exact ⟨vs, e, q.wi⟩
  | dK ks xs => obtain ⟨vs, e, n, q⟩ := r; exact ⟨vs, e, n, q.wi⟩
  | dT ks xs => obtain ⟨vs, e, n, q⟩ := r; exact ⟨vs, e, n, q.wi⟩
theorem RR.wi {as : List Addr} {f : Ob} {o : HO} (r : RR T F as f o) : RR (T.wi s) F as f o := by
  cases f with
  | lst us => obtain ⟨vs, e, q⟩ := r; exact ⟨vs, e, q.wi⟩
  | ins c us => obtain ⟨dx, vs, e, n, q⟩ := r; exact ⟨dx, vs, e, n, q.wi⟩
  | o f => exact RF.wi r
/-- another side -/
theorem Rel.side' (R : Rel T F ρ H m) {s : Hp} (sd : Le s H) (sf : ∀ a o, s a = some o → F a = none)
    (own : ∀ (n : Nat) (p : Addr × List Addr) (g : Gr), ρ[n]? = some p → m[n]? = some (some g) → s p.1 = none ∧ ∀ (f : Nat) (b : Addr) (o : Fo), p.2[f]? = some b → g.inn[f]? = some (some o) → s b = none) : Rel (T.wi s) F ρ H m := by
  obtain ⟨ow, hx⟩ := R.ex
  refine ⟨R.sub, R.len, ⟨ow, fun k p g e q => ?_⟩, sd, sf⟩
  obtain ⟨h1, h2, ⟨o1, h3, h3'⟩, h4, h5, h6⟩ := hx k p g e q
  refine ⟨h1, h2, ⟨o1, h3, h3'.wi⟩, h4, fun f b u e1 e2 => ?_, own k p g e q⟩
  obtain ⟨k1, k2, u', k3, k4⟩ := h5 f b u e1 e2
  exact ⟨k1, k2, u', k3, k4.wi⟩
/-- a new thing is laid aside -/
theorem Rel.aside (R : Rel T F ρ H m) {a : Addr} {o : HO} (n : H a = none) : Rel (T.wi (upd T.side a o)) F ρ (upd H a o) m := by
  have R1 : Rel T F ρ (upd H a o) m := R.side n
  refine R1.side' R.sd.both (fun b u e => ?_) fun k p g e q => ?_
  · by_cases h : b = a
    · subst h; exact R.sub.none n
    · rw [upd_ne h] at e
      exact R.sf b u e
  · obtain ⟨ow, hx⟩ := R.ex
    have hn := hx k p g e q
    obtain ⟨o1, h3, _⟩ := hn.root
    refine ⟨by rw [upd_ne (ne_of_none h3 n)]; exact hn.sd.1, fun f b u e1 e2 => ?_⟩
    obtain ⟨_, _, u', k3, _⟩ := hn.inn f b u e1 e2
    rw [upd_ne (ne_of_none k3 n)]
    exact hn.sd.2 f b u e1 e2
/-- what lies aside changes -/
theorem Rel.reside {S : Hp} {a : Addr} {o o' : HO} (R : Rel (T.wi (upd S a o)) F ρ H m) : Rel (T.wi (upd S a o')) F ρ (upd H a o') m := by
  obtain ⟨ow, hx⟩ := R.ex
  have fa : F a = none := R.sf a o upd_same
  have none_ : ∀ {b : Addr}, (upd S a o) b = none → b ≠ a ∧ S b = none := fun {b} e => by
    by_cases h : b = a
    · subst h
      rw [upd_same] at e; cases e
    · rw [upd_ne h] at e
      exact ⟨h, e⟩
  refine ⟨R.sub.upd fa, R.len, ⟨ow, fun k p g e q => ?_⟩, fun b u e => ?_, fun b u e => ?_⟩
  · have hn := hx k p g e q
    obtain ⟨n1, n2⟩ := none_ (show (upd S a o) p.1 = none from hn.sd.1)
    obtain ⟨o1, h3, h3'⟩ := hn.root
    refine ⟨hn.own, hn.fr, ⟨o1, by rw [upd_ne n1]; exact h3, RR.wi (T := T.wi (upd S a o)) h3'⟩, hn.len, fun f b u e1 e2 => ?_, ?_, fun f b u e1 e2 => ?_⟩
    · obtain ⟨k1, k2, u', k3, k4⟩ := hn.inn f b u e1 e2
      obtain ⟨q1, _⟩ := none_ (show (upd S a o) b = none from hn.sd.2 f b u e1 e2)
      exact ⟨k1, k2, u', by rw [upd_ne q1]; exact k3, RF.wi (T := T.wi (upd S a o)) k4⟩
    · show (upd S a o') p.1 = none
      rw [upd_ne n1]; exact n2
    · obtain ⟨q1, q2⟩ := none_ (show (upd S a o) b = none from hn.sd.2 f b u e1 e2)
      show (upd S a o') b = none
      rw [upd_ne q1]; exact q2
  · have e' : (upd S a o') b = some u := e
    by_cases h : b = a
    · subst h
      rw [upd_same] at e' ⊢
      exact e'
    · rw [upd_ne h] at e' ⊢
      exact R.sd b u (by show (upd S a o) b = some u; rw [upd_ne h]; exact e')
  · have e' : (upd S a o') b = some u := e
    by_cases h : b = a
    · subst h; exact fa
    · rw [upd_ne h] at e'
      exact R.sf b u (by show (upd S a o) b = some u; rw [upd_ne h]; exact e')
/-- what lay aside is data -/
theorem Rel.unside {a : Addr} {o : HO} (R : Rel (T.wi (upd T.side a o)) F ρ H m) (hn : T.side a = none) : Rel T (upd F a o) ρ H m := by
  obtain ⟨ow, hx⟩ := R.ex
  have ha : H a = some o := R.sd a o upd_same
  have fa : F a = none := R.sf a o upd_same
  have lF : Le F (upd F a o) := Le.rfl'.upd fa
  have none_ : ∀ {b : Addr}, (upd T.side a o) b = none → b ≠ a ∧ T.side b = none := fun {b} e => by
    by_cases h : b = a
    · subst h
      rw [upd_same] at e; cases e
    · rw [upd_ne h] at e
      exact ⟨h, e⟩
  refine ⟨fun b u e => ?_, R.len, ⟨ow, fun k p g e q => ?_⟩, fun b u e => ?_, fun b u e => ?_⟩
  · by_cases h : b = a
    · subst h
      rw [upd_same] at e
      rw [← e]; exact ha
    · rw [upd_ne h] at e
      exact R.sub b u e
  · have h0 := hx k p g e q
    obtain ⟨n1, n2⟩ := none_ (show (upd T.side a o) p.1 = none from h0.sd.1)
    obtain ⟨o1, h3, h3'⟩ := h0.root
    refine ⟨h0.own, by rw [upd_ne n1]; exact h0.fr, ⟨o1, h3, (RR.wi (T := T.wi (upd T.side a o)) (s := T.side) h3').monoF lF⟩, h0.len, fun f b u e1 e2 => ?_, n2, fun f b u e1 e2 => ?_⟩
    · obtain ⟨k1, k2, u', k3, k4⟩ := h0.inn f b u e1 e2
      obtain ⟨q1, _⟩ := none_ (show (upd T.side a o) b = none from h0.sd.2 f b u e1 e2)
      exact ⟨k1, by rw [upd_ne q1]; exact k2, u', k3, (RF.wi (T := T.wi (upd T.side a o)) (s := T.side) k4).mono lF⟩
    · exact (none_ (show (upd T.side a o) b = none from h0.sd.2 f b u e1 e2)).2
  · have h : b ≠ a := fun z => by rw [z, hn] at e; cases e
    exact R.sd b u (by show (upd T.side a o) b = some u; rw [upd_ne h]; exact e)
  · have h : b ≠ a := fun z => by rw [z, hn] at e; cases e
    rw [upd_ne h]
    exact R.sf b u (by show (upd T.side a o) b = some u; rw [upd_ne h]; exact e)
end

/-! ### targets -/
def gIs : List Nat → TGs
  | [] => gNil
  | i :: r => gCons (gName i) (gIs r)
def gTg (K : PySem.W.Frag) : Tg → TG
  | .n i => gName i
  | .t is => gTup K is.length (gIs is)
section
variable {T : Tx} {F H : Hp} {ρ : Ro}
theorem gIs_ok {α : Type} {P : V → α → Prop} {f : α → W} (hP : ∀ v a, P v a → RW T F ρ v (f a)) : ∀ {is : List Nat} {vs : List V} {xs : List α} {σ : L2.St} {ws : Sl} {Q : L2.St → Hp → Prop}, Paired P vs xs → xs.length = is.length → RSl T F ρ σ ws →
    (∀ σ2, RSl T F ρ σ2 ((is.zip xs).foldl (fun σ p => σ.set p.1 (some (f p.2))) ws) → σ2.length = σ.length → (∀ i, i ∉ is → σ2[i]? = σ[i]?) → Q σ2 H) → gIs is vs σ H Q
  | [], _, _, σ, ws, Q, .nil, _, S, q => ⟨rfl, q σ S rfl fun _ _ => rfl⟩
  | [], _, _, _, _, _, .cons _ _, hl, _, _ => by simp at hl
  | i :: is, _, _, _, _, _, .nil, hl, _, _ => by simp at hl
  | i :: is, _, _, σ, ws, Q, .cons h t, hl, S, q => ⟨_, _, rfl, gIs_ok hP t (by simpa using hl) (S.set i (hP _ _ h)) fun σ2 h2 h3 h4 => q σ2 h2 (by rw [h3]; simp) fun j hj => by
    rw [h4 j (fun z => hj (List.mem_cons_of_mem _ z)), List.getElem?_set_ne (fun z => hj (by rw [z]; exact List.mem_cons_self))]⟩
theorem rds_paired : ∀ {vs : List V} {xs : List D}, RDs T F vs xs → Paired (RD T F) vs xs
  | _, _, .nil => .nil
  | _, _, .cons h t => .cons h (rds_paired t)
theorem rks_paired {K : PySem.W.Frag} : ∀ {vs : List V} {xs : List D}, RKs K vs xs → Paired (RK K) vs xs
  | _, _, .nil => .nil
  | _, _, .cons h t => .cons h (rks_paired t)
/-- a target takes a value -/
theorem bind_g {K : PySem.W.Frag} (hK : K = T.K) (hl : Le F H) {σ : L2.St} {ws ws1 : Sl} {x : V} {w : W} {g : Tg} {Q : L2.St → Hp → Prop} (e : bindG ws w g = some ws1) (hx : RW T F ρ x w) (S : RSl T F ρ σ ws)
    (q : ∀ σ2, RSl T F ρ σ2 ws1 → σ2.length = σ.length → (∀ i, i ∉ tgs g → σ2[i]? = σ[i]?) → Q σ2 H) : gTg K g x σ H Q := by
  cases g with
  | n i =>
    cases e
    exact q _ (S.set i hx) (by simp) fun j hj => List.getElem?_set_ne (fun z => hj (by rw [z]; exact List.mem_cons_self))
  | t is =>
    unfold bindG at e
    dsimp only at e
    split at e
    · rename_i xs
      split at e
      · rename_i hlen
        cases e
        obtain ⟨a, vs, rfl, ha, h1⟩ := RD.seqT hx
        refine ⟨a, vs, rfl, .of (hl _ _ ha), by rw [h1.length]; exact hlen, gIs_ok (f := fun x => .d x) (fun _ _ h => h) (rds_paired h1) hlen S q⟩
      · cases e
    · rename_i xs
      split at e
      · rename_i hlen
        cases e
        cases hx with
        | @tup a vs _ ha h1 =>
          exact ⟨a, vs, rfl, by rw [hK]; exact ha H, by rw [h1.length]; exact hlen, gIs_ok (f := toK) (fun _ _ h => toK_rw rfl h) (rks_paired h1) hlen S q⟩
      · cases e
    · cases e
end

/-! ### items -/
structure Walk (T : Tx) (J : L2.It) (F : Hp) (ws : List W) : Prop where
  go : ∀ i F1 H, Le F F1 → Le F1 H → i < ws.length → J.go i H
  yld : ∀ i (s : Hp) F1 ρ1 H m x H' w, Rel (T.wi s) F1 ρ1 H m → Le F F1 → ws[i]? = some w → J.yld i H x H' → ∃ F2, Le F1 F2 ∧ Rel (T.wi s) F2 ρ1 H' m ∧ RW T F2 ρ1 x w
  stop : ∀ F1 H, Le F F1 → Le F1 H → J.stop ws.length H
def tI (T : Tx) (xt : Xt) (W' : WX) (ev : Sl → Mu → Res (List W)) : TI := fun σ H R => ∃ F ρ m ws, Rel T F ρ H m ∧ RSl T F ρ σ ws ∧
  After T xt F ρ (ev ws m) (fun F' ρ' H' _ us => ∀ J, Walk T J F' us → R J H') (fun c dx H' => W' c dx σ H')
theorem paired_get {α β : Type} {R : α → β → Prop} : ∀ {xs : List α} {ys : List β} {i : Nat} {y : β}, Paired R xs ys → ys[i]? = some y → ∃ x, xs[i]? = some x ∧ R x y
  | _, _, _, _, .nil, e => by simp at e
  | _, _, 0, _, .cons h _, e => by simp at e; subst e; exact ⟨_, rfl, h⟩
  | _, _, i + 1, y, .cons _ t, e => by
    obtain ⟨x, h1, h2⟩ := paired_get (i := i) (y := y) t (by simpa using e)
    exact ⟨x, by simpa using h1, h2⟩
theorem paired_map {α β γ : Type} {R : α → β → Prop} {S : α → γ → Prop} {f : β → γ} (h : ∀ a b, R a b → S a (f b)) : ∀ {xs : List α} {ys : List β}, Paired R xs ys → Paired S xs (ys.map f)
  | _, _, .nil => .nil
  | _, _, .cons a t => .cons (h _ _ a) (paired_map h t)
section
variable {T : Tx} {xt : Xt} {W' : WX} {X : Cx}
/-- an item of what stays: wherever more is tracked -/
def RI (T : Tx) (F : Hp) (x : V) (w : W) : Prop := ∀ ρ, RW T F ρ x w
theorem walk_tup {K : PySem.W.Frag} {F : Hp} {a : Addr} {vs : List V} {ws : List W} (hq : ∀ H, Le F H → SqT K H a vs) (hr : Paired (RI T F) vs ws) : Walk T (Itt K a) F ws := by
  have hl : vs.length = ws.length := PairedLen hr
  refine ⟨fun i F1 H l1 l2 hi => ⟨vs, vs[i]'(by omega), hq H (l1.trans l2), by simp⟩, fun i s F1 ρ1 H m x H' w R l1 ew y => ?_, fun F1 H l1 l2 => ⟨vs, hq H (l1.trans l2), by omega⟩⟩
  obtain ⟨rfl, y⟩ := y
  have hx := y vs (hq _ (l1.trans R.sub))
  obtain ⟨x', h1, h2⟩ := paired_get hr ew
  rw [hx] at h1
  cases h1
  exact ⟨F1, Le.rfl', R, (h2 ρ1).mono l1 .rfl'⟩
theorem walk_lst {K : PySem.W.Frag} {F : Hp} {a : Addr} {vs : List V} {ws : List W} (hq : ∀ H, Le F H → SqL K H a vs) (hr : Paired (RI T F) vs ws) : Walk T (Itl K a) F ws := by
  have hl : vs.length = ws.length := PairedLen hr
  refine ⟨fun i F1 H l1 l2 hi => ⟨vs, vs[i]'(by omega), hq H (l1.trans l2), by simp⟩, fun i s F1 ρ1 H m x H' w R l1 ew y => ?_, fun F1 H l1 l2 => ⟨vs, hq H (l1.trans l2), by omega⟩⟩
  obtain ⟨rfl, y⟩ := y
  have hx := y vs (hq _ (l1.trans R.sub))
  obtain ⟨x', h1, h2⟩ := paired_get hr ew
  rw [hx] at h1
  cases h1
  exact ⟨F1, Le.rfl', R, (h2 ρ1).mono l1 .rfl'⟩
theorem walk_str {F : Hp} {cs : List Nat} : Walk T (Its (strV cs)) F (cs.map fun c => .d (.str [c])) := by
  have hz : (strV cs).cps.size = cs.length := by simp [strV]
  refine ⟨fun i F1 H l1 l2 hi => ?_, fun i s F1 ρ1 H m x H' w R l1 ew y => ?_, fun F1 H l1 l2 => ?_⟩
  · show i < (strV cs).cps.size
    rw [hz]; simpa using hi
  · obtain ⟨rfl, c, hc, rfl⟩ := y
    rw [List.getElem?_map] at ew
    have hc' : cs[i]? = some c := by simpa [strV] using hc
    rw [hc'] at ew
    cases ew
    exact ⟨F1, Le.rfl', R, RD.str [c]⟩
  · show (strV cs).cps.size ≤ _
    rw [hz]; simp
theorem walk_rng {F : Hp} {lo : Int} {n : Nat} : Walk T (Itr lo n) F ((List.range n).map fun (k : Nat) => .d (.int (lo + k))) := by
  refine ⟨fun i F1 H l1 l2 hi => (by simpa using hi : i < n), fun i s F1 ρ1 H m x H' w R l1 ew y => ?_, fun F1 H l1 l2 => ?_⟩
  · obtain ⟨rfl, rfl⟩ := y
    rw [List.getElem?_map] at ew
    by_cases h : i < n
    · rw [List.getElem?_range h] at ew
      cases ew
      exact ⟨F1, Le.rfl', R, RD.int _⟩
    · rw [List.getElem?_eq_none (by simpa using h)] at ew
      cases ew
  · show n ≤ _
    simp
theorem ri_d {F : Hp} {vs : List V} {xs : List D} (h : RDs T F vs xs) : Paired (RI T F) vs (xs.map .d) := paired_map (R := RD T F) (fun _ _ h _ => h) (rds_paired h)
theorem ri_k {F : Hp} {vs : List V} {xs : List D} (h : RKs T.K vs xs) : Paired (RI T F) vs (xs.map toK) := paired_map (R := RK T.K) (fun _ _ h _ => toK_rw rfl h) (rks_paired h)
/-- what is walked: a list, a tuple, a text -/
theorem pi_seq {l tg : Expr} {ea : Sl → Mu → Res W} (hK : X.K = T.K) (hl : PE X l (tE T xt W' ea)) : PI X tg l (tI T xt W' fun ws m => (ea ws m).bind fun x m => optR (itemsD x) m) := by
  refine ⟨fun pins s σ H R I h => ?_⟩
  have h' : tE T xt W' ea σ H (fun x H1 => ∃ F ρ m w us, Rel T F ρ H1 m ∧ RW T F ρ x w ∧ itemsD w = some us ∧ ∀ J, Walk T J F us → R J H1) := by
    obtain ⟨F, ρ, m, ws, RR, S, A⟩ := h
    refine ⟨F, ρ, m, ws, RR, S, A.bind.imp (fun F1 ρ1 H1 m1 w r1 l1 g1 k v hv => ?_) fun _ _ _ z => z⟩
    cases e : itemsD w with
    | none => rw [e] at k; exact k.elim
    | some us =>
      rw [e] at k
      exact ⟨F1, ρ1, m1, w, us, r1, hv, e, k.ok r1⟩
  refine thn (hl.run pins s σ H _ I h') fun v s1 ⟨x, H1, I1, r1, F, ρ, m, w, us, RR, hx, e, q⟩ => ?_
  have tup : ∀ (a : Addr) (vs : List V), x = .ref a → (∀ H, Le F H → SqT X.K H a vs) → Paired (RI T F) vs us → wpAny (model X.prog X.w) X.A (pyIter v) (PIE X pins σ tg R) X.xe s1 := by
    intro a vs ex hq hr
    subst ex
    cases r1
    obtain ⟨its, rv, p, hz⟩ := I1.tuple (hq _ RR.sub)
    refine wpAny_pyIter_tuple (show s1.heap.IsTuple a its.toArray from p) ?_
    refine ⟨s1.heap.objs.size, [s1.heap.objs.size], _, _, H1, rfl, I1.kept (t' := s1.toks) fun b o e => Heap.get?_push_of_some _ e, turn_tuple a _, ⟨_, Heap.get?_push_size _ rfl, rfl, rfl⟩, fun b hb => ?_, q _ (walk_tup hq hr)⟩
    have e : b = s1.heap.objs.size := by simpa using hb
    subst e
    exact I1.fpOk (Nat.le_refl _) (I1.hok.fresh (Nat.le_refl _))
  unfold itemsD at e
  split at e
  · split at e
    · cases e
      cases hx with
      | tup a b => exact tup _ _ rfl (fun H _ => by rw [hK]; exact a H) (ri_k b)
    · cases e
  · cases e
    cases hx
    rename_i cs
    obtain ⟨t, rfl⟩ := r1
    have q2 := q _ (walk_str (cs := cs))
    cases hac : (strV cs).cps.all (· < 128)
    · exact wpAny_pyIter_wide hac (pi_one (tk := s1.toks) I1 _ (turn_str _ (strV cs) t "str_iterator" (.inr rfl)) ⟨_, Heap.get?_push_size _ rfl, rfl, rfl⟩ q2)
    · exact wpAny_pyIter_ascii hac (pi_one (tk := s1.toks) I1 _ (turn_str _ (strV cs) t "str_ascii_iterator" (.inl rfl)) ⟨_, Heap.get?_push_size _ rfl, rfl, rfl⟩ q2)
  · cases e
    obtain ⟨a, vs, rfl, ha, h1⟩ := RD.seqT hx
    exact tup a vs rfl (fun H l => .of (l _ _ ha)) (ri_d h1)
  · cases e
    obtain ⟨a, vs, rfl, ha, h1⟩ := RD.seqL hx
    cases r1
    have hq : ∀ H, Le F H → SqL X.K H a vs := fun H l => .inl (l.rd ha)
    obtain ⟨its, rv, p, hz⟩ := I1.list (hq _ RR.sub)
    refine wpAny_pyIter_list p.isList ?_
    refine ⟨s1.heap.objs.size, [s1.heap.objs.size], _, _, H1, rfl, I1.kept (t' := s1.toks) fun b o e => Heap.get?_push_of_some _ e, turn_list a _, ⟨_, Heap.get?_push_size _ rfl, rfl, rfl⟩, fun b hb => ?_, q _ (walk_lst hq (ri_d h1))⟩
    have e : b = s1.heap.objs.size := by simpa using hb
    subst e
    exact I1.fpOk (Nat.le_refl _) (I1.hok.fresh (Nat.le_refl _))
  · cases e
end
end Cn

/-! # comprehensions -/
namespace Cn
open PySem PySem.Spec PyProof.Rows L2
abbrev WF : WX := fun _ _ _ _ => False
def tEs (T : Tx) (xt : Xt) (W' : WX) (ev : Sl → Mu → Res W) : TE := fun σ H Q => ∃ s, tE (T.wi s) xt W' ev σ H Q
theorem pe_s {T : Tx} {xt : Xt} {W' : WX} {X : Cx} {e : Expr} {ev : Sl → Mu → Res W} (h : ∀ s, PE X e (tE (T.wi s) xt W' ev)) : PE X e (tEs T xt W' ev) := ⟨fun pins s σ H Q I ⟨sd, q⟩ => (h sd).run pins s σ H Q I q⟩
theorem pt_s {T : Tx} {xt : Xt} {W' : WX} {X : Cx} {e : Expr} {ev : Sl → Mu → Res W} (h : ∀ s, PT X e (tTest (tE (T.wi s) xt W' ev))) : PT X e (tTest (tEs T xt W' ev)) := ⟨fun pins s σ H Q I ⟨sd, q⟩ => (h sd).run pins s σ H Q I q⟩
theorem wipe_get {σ : L2.St} {i : Nat} : ∀ {vs : List Nat}, (wipe σ vs)[i]? = if i ∈ vs then (if i < σ.length then some none else none) else σ[i]?
  | [] => rfl
  | v :: vs => by
    unfold wipe
    have ih := wipe_get (σ := σ) (i := i) (vs := vs)
    by_cases h : v = i
    · subst h
      rw [if_pos List.mem_cons_self]
      by_cases hl : v < σ.length
      · rw [if_pos hl, List.getElem?_set_self (by rw [wipe_length]; exact hl)]
      · rw [if_neg hl, List.getElem?_eq_none (by rw [List.length_set, wipe_length]; omega)]
    · rw [List.getElem?_set_ne h, ih]
      by_cases hm : i ∈ vs
      · rw [if_pos hm, if_pos (List.mem_cons_of_mem _ hm)]
      · rw [if_neg hm, if_neg (fun z => (List.mem_cons.mp z).elim (fun e => h e.symm) hm)]
theorem wipe_wipe {σ σ2 : L2.St} {vs : List Nat} (hl : σ2.length = σ.length) (h : ∀ i, i ∉ vs → σ2[i]? = (wipe σ vs)[i]?) : wipe σ2 vs = wipe σ vs := by
  apply List.ext_getElem?
  intro i
  rw [wipe_get, wipe_get]
  by_cases hm : i ∈ vs
  · rw [if_pos hm, if_pos hm, hl]
  · rw [if_neg hm, if_neg hm, h i hm, wipe_get, if_neg hm]
section
variable {T : Tx} {F : Hp} {ρ : Ro}
theorem RSl.wipe {σ : L2.St} {ws : Sl} (r : RSl T F ρ σ ws) : ∀ vs : List Nat, RSl T F ρ (L2.wipe σ vs) (wipeS ws vs)
  | [] => r
  | v :: vs => by
    have ih := RSl.wipe r vs
    unfold L2.wipe wipeS
    refine ⟨by simpa using ih.1, fun i w e => ?_⟩
    rcases getElem?_set_of e with ⟨_, z⟩ | ⟨hn, e⟩
    · cases z
    · obtain ⟨u, h1, h2⟩ := ih.2 i w e
      exact ⟨u, by rw [List.getElem?_set_ne hn]; exact h1, h2⟩
end
section
variable {T : Tx} {xt : Xt} {W' : WX} {F : Hp} {ρ : Ro} {m : Mu} {k : Hp → Ro → Hp → Mu → W → Prop} {e : XK}
theorem lcGo_cons {ws : Sl} {g : Tg} {c el : Sl → Mu → Res W} {w : W} {r : List W} : lcGo ws g c el (w :: r) m = .stuck ∨ ∃ ws1 b m1, bindG ws w g = some ws1 ∧ c ws1 m = .ok (.d (.bl b)) m1 ∧
    ((b = true ∧ ∃ z m2, el ws1 m1 = .ok (.d z) m2 ∧ lcGo ws g c el (w :: r) m = (lcGo ws g c el r m2).bind fun zs m3 => .ok (z :: zs) m3) ∨ (b = false ∧ lcGo ws g c el (w :: r) m = lcGo ws g c el r m1)) := by
  rw [lcGo]
  cases e1 : bindG ws w g with
  | none => exact .inl rfl
  | some ws1 =>
    dsimp only
    cases e2 : c ws1 m with
    | ok b m1 =>
      dsimp only [Res.nox, Res.bind]
      split
      · cases e3 : el ws1 m1 with
        | ok y m2 =>
          dsimp only
          split
          · rename_i z
            exact .inr ⟨ws1, true, m1, rfl, e2, .inl ⟨rfl, z, m2, e3, rfl⟩⟩
          · exact .inl rfl
        | exc x m2 => exact .inl rfl
        | stuck => exact .inl rfl
      · exact .inr ⟨ws1, false, m1, rfl, e2, .inr ⟨rfl, rfl⟩⟩
      · exact .inl rfl
    | exc x m1 => exact .inl rfl
    | stuck => exact .inl rfl
theorem lcGo_step {ws : Sl} {g : Tg} {c el : Sl → Mu → Res W} {w : W} {r : List W} {f : List D → Mu → Res W} (A : After T xt F ρ ((lcGo ws g c el (w :: r) m).bind f) k e) :
    ∃ ws1 b m1, bindG ws w g = some ws1 ∧ c ws1 m = .ok (.d (.bl b)) m1 ∧ (b = true → ∃ z m2, el ws1 m1 = .ok (.d z) m2 ∧ After T xt F ρ ((lcGo ws g c el r m2).bind fun zs m3 => f (z :: zs) m3) k e) ∧
      (b = false → After T xt F ρ ((lcGo ws g c el r m1).bind f) k e) := by
  rcases lcGo_cons (ws := ws) (g := g) (c := c) (el := el) (w := w) (r := r) (m := m) with q | ⟨ws1, b, m1, e1, e2, ⟨rfl, z, m2, e3, q⟩ | ⟨rfl, q⟩⟩
  · rw [q] at A; exact A.elim
  · rw [q] at A
    refine ⟨ws1, true, m1, e1, e2, fun _ => ⟨z, m2, e3, ?_⟩, fun z => Bool.noConfusion z⟩
    cases e4 : lcGo ws g c el r m2 with
    | ok zs m3 => rw [e4] at A; exact A
    | exc x m3 => rw [e4] at A; exact A
    | stuck => rw [e4] at A; exact A
  · rw [q] at A
    exact ⟨ws1, false, m1, e1, e2, fun z => Bool.noConfusion z, fun _ => A⟩
theorem lcGo_noexc {ws : Sl} {g : Tg} {c el : Sl → Mu → Res W} : ∀ (us : List W) (m : Mu) {x : Xn} {m' : Mu}, lcGo ws g c el us m ≠ .exc x m'
  | [], m, x, m' => fun z => nomatch z
  | w :: r, m, x, m' => by
    intro h
    rcases lcGo_cons (ws := ws) (g := g) (c := c) (el := el) (w := w) (r := r) (m := m) with q | ⟨ws1, b, m1, e1, e2, ⟨rfl, z, m2, e3, q⟩ | ⟨rfl, q⟩⟩
    · rw [q] at h; cases h
    · rw [q] at h
      cases e4 : lcGo ws g c el r m2 with
      | ok zs m3 => rw [e4] at h; cases h
      | exc x m3 => exact lcGo_noexc r m2 e4
      | stuck => rw [e4] at h; cases h
    · rw [q] at h
      exact lcGo_noexc r m1 h
/-- what a test is to take -/
def TakesB (T : Tx) (c : Sl → Mu → Res W) (tt : TT) : Prop := ∀ s σ2 H2 (K : Bool → Hp → Prop) F ρ m ws b m2, Rel (T.wi s) F ρ H2 m → RSl (T.wi s) F ρ σ2 ws → c ws m = .ok (.d (.bl b)) m2 → (∀ F' ρ' H', Rel (T.wi s) F' ρ' H' m2 → Le F F' → RoLe ρ ρ' → K b H') → tt σ2 H2 K
theorem takesB_yes {C : Calls} : TakesB T (fun ws m => evE C ws m (.bl true)) tYes := fun s σ2 H2 K F ρ m ws b m2 R S e k => by
  simp only [evE] at e
  cases e
  exact k F ρ H2 R Le.rfl' .rfl'
theorem takesB_one {c : Sl → Mu → Res W} : TakesB T c (tTest (tEs T xt WF c)) := fun s σ2 H2 K F ρ m ws b m2 R S e k =>
  ⟨s, F, ρ, m, ws, R, S, by
    rw [e]
    intro F' ρ' H' R' l g v hv
    cases hv
    exact ⟨b, rfl, k F' ρ' H' R' l g⟩⟩
theorem s_lc {evI : Sl → Mu → Res (List W)} {g : Tg} {c el : Sl → Mu → Res W} {tt : TT} {K : PySem.W.Frag} {σ : L2.St} {H : Hp} {Q : VK} (hK : K = T.K) (htt : TakesB T c tt)
    (h : tE T xt W' (fun ws m => (evI ws m).bind fun us m => (lcGo (wipeS ws (tgs g)) g c el us m).bind fun xs m => guardR (decide (xs.length ≤ line)) (.ok (.d (.lst xs)) m)) σ H Q) :
    tLc (tI T xt W' evI) (gTg K g) tt (tEs T xt WF el) (tgs g) σ H Q := by
  obtain ⟨F, ρ, m, ws, R, S, A⟩ := h
  refine ⟨F, ρ, m, ws, R, S, A.bind.imp (fun F1 ρ1 H1 m1 us R1 l1 g1 A1 J hJ => ?_) fun _ _ _ z => z⟩
  intro Ad hD
  have S1 := (S.mono l1 g1).wipe (tgs g)
  refine ⟨fun i k H => k = us.length - i ∧ i ≤ us.length ∧ ∃ F2 ρ2 m2 acc xs, Rel (T.wi (upd T.side Ad (.lst acc))) F2 ρ2 H m2 ∧ Le F1 F2 ∧ RoLe ρ1 ρ2 ∧ RDs T F2 acc xs ∧ xs.length ≤ i ∧
    After T xt F2 ρ2 ((lcGo (wipeS ws (tgs g)) g c el (us.drop i) m2).bind fun zs m3 => guardR (decide ((xs ++ zs).length ≤ line)) (Res.ok (W.d (D.lst (xs ++ zs))) m3)) (KV1 T Q) (fun c dx H' => W' c dx σ H'),
    ⟨us.length, by simp, Nat.zero_le _, F1, ρ1, m1, [], [], R1.aside hD, Le.rfl', .rfl', .nil, Nat.le_refl _, by simpa using A1⟩, ?_⟩
  rintro i k H2 ⟨rfl, hi, F2, ρ2, m2, acc, xs, R2, l2, g2, hacc, hxi, A2⟩
  have sideD : T.side Ad = none := R1.sd.none hD
  by_cases hlt : i < us.length
  · have hd : us.drop i = us[i] :: us.drop (i + 1) := by rw [List.drop_eq_getElem_cons hlt]
    rw [hd] at A2
    obtain ⟨ws1, b, m3, e1, e2, e3, e4⟩ := lcGo_step A2
    refine .inr ⟨hJ.go i F2 H2 l2 R2.sub hlt, fun H' => ∃ F3 ρ3 m4 acc xs, Rel (T.wi (upd T.side Ad (.lst acc))) F3 ρ3 H' m4 ∧ Le F1 F3 ∧ RoLe ρ1 ρ3 ∧ RDs T F3 acc xs ∧ xs.length ≤ i + 1 ∧
      After T xt F3 ρ3 ((lcGo (wipeS ws (tgs g)) g c el (us.drop (i + 1)) m4).bind fun zs m3 => guardR (decide ((xs ++ zs).length ≤ line)) (.ok (.d (.lst (xs ++ zs))) m3)) (KV1 T Q) (fun c dx H' => W' c dx σ H'),
      fun H' hH' => ⟨us.length - (i + 1), by omega, rfl, hlt, hH'⟩, fun x H3 y => ?_⟩
    obtain ⟨F3, l3, R3, hx⟩ := hJ.yld i _ F2 ρ2 H2 m2 x H3 us[i] R2 l2 (by simp) y
    refine bind_g (T := T) (F := F3) (ρ := ρ2) hK R3.sub e1 hx (S1.mono (l2.trans l3) g2) fun σ2 S2 hlen hout => ?_
    refine ⟨wipe_wipe (by rw [hlen, wipe_length]) hout, ?_⟩
    refine htt _ σ2 H3 _ F3 ρ2 m2 ws1 b m3 R3 S2.wi e2 fun F4 ρ4 H4 R4 l4 g4 => ?_
    cases b with
    | false =>
      simp only [Bool.false_eq_true, if_false]
      exact ⟨F4, ρ4, m3, acc, xs, R4, (l2.trans l3).trans l4, g2.trans g4, hacc.mono (l3.trans l4), Nat.le_succ_of_le hxi, (e4 rfl).mono (l3.trans l4) g4⟩
    | true =>
      simp only [if_true]
      obtain ⟨z, m4, e5, A3⟩ := e3 rfl
      refine ⟨_, F4, ρ4, m3, ws1, R4, (S2.mono l4 g4).wi, ?_⟩
      rw [e5]
      intro F5 ρ5 H5 R5 l5 g5 v hv
      have lF := (l3.trans l4).trans l5
      have A4 := A3.mono lF (g4.trans g5)
      refine ⟨acc, R5.sd Ad _ upd_same, ?_, F5, ρ5, m4, acc ++ [v], xs ++ [z], R5.reside, l2.trans lF, g2.trans (g4.trans g5), (hacc.mono lF).append (.cons (RD.wi (T := T.wi (upd T.side Ad (.lst acc))) (s := T.side) hv) .nil), by simp; omega, ?_⟩
      · -- it fits
        rw [hacc.length]
        cases e6 : lcGo (wipeS ws (tgs g)) g c el (us.drop (i + 1)) m4 with
        | ok zs m5 =>
          rw [e6] at A4
          have := (guard_ok A4).1
          have := of_decide_eq_true this
          have hz : sizeLine = line := rfl
          simp at this
          omega
        | exc x m5 =>
          exact absurd e6 (lcGo_noexc _ _)
        | stuck => rw [e6] at A4; exact A4.elim
      · simpa using A4
  · have hie : i = us.length := by omega
    subst hie
    rw [List.drop_length] at A2
    refine .inl ⟨hJ.stop F2 H2 l2 R2.sub, ?_⟩
    unfold lcGo at A2
    obtain ⟨_, A3⟩ := guard_ok A2
    rw [List.append_nil] at A3
    have R3 := R2.unside sideD
    have fD : F2 Ad = none := R2.sf Ad _ upd_same
    have lF : Le F2 (upd F2 Ad (.lst acc)) := Le.rfl'.upd fD
    exact A3 _ ρ2 H2 R3 lF .rfl' _ (RD.lst (.inl upd_same) (hacc.mono lF))
end
end Cn

/-! # statements -/
namespace Cn
open PySem PySem.Spec PyProof.Rows L2
section
variable {T : Tx} {xt : Xt} {W' : WX} {D : Ends} {F F' : Hp} {ρ ρ' : Ro} {σ : L2.St} {r : SR}
theorem AfterS.mono (h : AfterS T xt W' D F ρ σ r) (l : Le F F') (g : RoLe ρ ρ') : AfterS T xt W' D F' ρ' σ r := by
  cases r with
  | next ws m => exact fun F1 ρ1 H1 σ1 R l1 g1 => h F1 ρ1 H1 σ1 R (l.trans l1) (g.trans g1)
  | ret w ws m => exact fun F1 ρ1 H1 v R l1 g1 => h F1 ρ1 H1 v R (l.trans l1) (g.trans g1)
  | exc x ws m => exact fun F1 ρ1 H1 σ1 c dx R l1 g1 => h F1 ρ1 H1 σ1 c dx R (l.trans l1) (g.trans g1)
  | stuck => exact h
theorem AfterS.imp {D' : Ends} (h : AfterS T xt W' D F ρ σ r) (hn : ∀ σ H, D.nx σ H → D'.nx σ H) (hr : D.rt = D'.rt) : AfterS T xt W' D' F ρ σ r := by
  cases r with
  | next ws m => exact fun F1 ρ1 H1 σ1 R l1 g1 S1 => hn _ _ (h F1 ρ1 H1 σ1 R l1 g1 S1)
  | ret w ws m => exact fun F1 ρ1 H1 v R l1 g1 hv => by rw [← hr]; exact h F1 ρ1 H1 v R l1 g1 hv
  | exc x ws m => exact h
  | stuck => exact h
theorem AfterS.st {σ' : L2.St} (h : AfterS T xt W' D F ρ σ r) : AfterS T xt W' D F ρ σ' r := by
  cases r with
  | next ws m => exact h
  | ret w ws m => exact h
  | exc x ws m => exact h
  | stuck => exact h
theorem AfterS.toS {α : Type} {q : Res α} {ws : Sl} {f : α → Mu → SR} (h : AfterS T xt W' D F ρ σ (q.toS ws f)) (S : RSl T F ρ σ ws) :
    After T xt F ρ q (fun F' ρ' _ m a => AfterS T xt W' D F' ρ' σ (f a m)) (fun c dx H' => W' c dx σ H') := by
  cases q with
  | ok a m => exact fun F1 ρ1 H1 R l1 g1 => AfterS.mono (r := f a m) h l1 g1
  | exc x m => exact fun F1 ρ1 H1 c dx R l1 g1 rx => h F1 ρ1 H1 σ c dx R l1 g1 (S.mono l1 g1) rx
  | stuck => exact h
theorem AfterS.then {f : Sl → Mu → SR} (h : AfterS T xt W' D F ρ σ (r.then f)) :
    AfterS T xt W' { D with nx := fun σ' H' => ∃ F' ρ' m' ws', Rel T F' ρ' H' m' ∧ RSl T F' ρ' σ' ws' ∧ Le F F' ∧ AfterS T xt W' D F' ρ' σ' (f ws' m') } F ρ σ r := by
  cases r with
  | next ws m => exact fun F1 ρ1 H1 σ1 R l1 g1 S1 => ⟨F1, ρ1, m, ws, R, S1, l1, (AfterS.mono (σ := σ) (r := f ws m) h l1 g1).st⟩
  | ret w ws m => exact h
  | exc x ws m => exact h
  | stuck => exact h
theorem tst_after {q : Res W} {k : Hp → Ro → Hp → Mu → Bool → Prop} {e : XK} (h : After T xt F ρ (tst q) k e) : After T xt F ρ q (fun F' ρ' H' m' w => ∀ v, RW T F' ρ' v w → ∃ b, v = .bl b ∧ (Rel T F' ρ' H' m' → k F' ρ' H' m' b)) e := by
  unfold tst at h
  refine (After.bind h).imp (fun F1 ρ1 H1 m1 w R1 l1 g1 k1 v hv => ?_) fun _ _ _ z => z
  split at k1
  · cases hv
    exact ⟨_, rfl, fun R => k1 F1 ρ1 H1 R Le.rfl' .rfl'⟩
  · exact k1.elim
end
section
variable {T : Tx} {xt : Xt} {W' : WX} {C : Calls} {D : Ends} {σ : L2.St} {H : Hp} {K : PySem.W.Frag}
theorem q_nil (h : tS T xt W' (fun ws m => evSs C ws m .nil) D σ H) : tNext D σ H := by
  obtain ⟨F, ρ, m, ws, R, S, A⟩ := h
  simp only [evSs] at A
  exact A F ρ H σ R Le.rfl' .rfl' S
theorem q_cons {s : S} {r : Ss} (h : tS T xt W' (fun ws m => evSs C ws m (.cons s r)) D σ H) : tSeq (tS T xt W' fun ws m => evS C ws m s) (tS T xt W' fun ws m => evSs C ws m r) D σ H := by
  obtain ⟨F, ρ, m, ws, R, S, A⟩ := h
  simp only [evSs] at A
  exact ⟨F, ρ, m, ws, R, S, A.then.imp (fun σ' H' ⟨F1, ρ1, m1, ws1, R1, S1, _, A1⟩ => ⟨F1, ρ1, m1, ws1, R1, S1, A1⟩) rfl⟩
theorem q_asg {i : Nat} {e : E} (h : tS T xt W' (fun ws m => evS C ws m (.asg i e)) D σ H) : tAsg (tE T xt W' fun ws m => evE C ws m e) (gName i) D σ H := by
  obtain ⟨F, ρ, m, ws, R, S, A⟩ := h
  simp only [evS] at A
  exact ⟨F, ρ, m, ws, R, S, (A.toS S).imp (fun F1 ρ1 H1 m1 w R1 l1 g1 k v hv => k F1 ρ1 H1 _ R1 Le.rfl' .rfl' ((S.mono l1 g1).set i hv)) fun _ _ _ z => z⟩
theorem q_asgT {is : List Nat} {e : E} (hK : K = T.K) (h : tS T xt W' (fun ws m => evS C ws m (.asgT is e)) D σ H) : tAsg (tE T xt W' fun ws m => evE C ws m e) (gTg K (.t is)) D σ H := by
  obtain ⟨F, ρ, m, ws, R, S, A⟩ := h
  simp only [evS] at A
  refine ⟨F, ρ, m, ws, R, S, (A.toS S).imp (fun F1 ρ1 H1 m1 w R1 l1 g1 k v hv => ?_) fun _ _ _ z => z⟩
  split at k
  · rename_i ws1 e1
    exact bind_g hK R1.sub e1 hv (S.mono l1 g1) fun σ2 S2 _ _ => k F1 ρ1 H1 σ2 R1 Le.rfl' .rfl' S2
  · exact k.elim
theorem q_ex {e : E} (h : tS T xt W' (fun ws m => evS C ws m (.ex e)) D σ H) : tDrop (tE T xt W' fun ws m => evE C ws m e) D σ H := by
  obtain ⟨F, ρ, m, ws, R, S, A⟩ := h
  simp only [evS] at A
  exact ⟨F, ρ, m, ws, R, S, (A.toS S).imp (fun F1 ρ1 H1 m1 w R1 l1 g1 k v hv => k F1 ρ1 H1 σ R1 Le.rfl' .rfl' (S.mono l1 g1)) fun _ _ _ z => z⟩
theorem q_ret {e : E} (h : tS T xt W' (fun ws m => evS C ws m (.ret e)) D σ H) : tRet (tE T xt W' fun ws m => evE C ws m e) D σ H := by
  obtain ⟨F, ρ, m, ws, R, S, A⟩ := h
  simp only [evS] at A
  exact ⟨F, ρ, m, ws, R, S, (A.toS S).imp (fun F1 ρ1 H1 m1 w R1 l1 g1 k v hv => k F1 ρ1 H1 v R1 Le.rfl' .rfl' hv) fun _ _ _ z => z⟩
theorem q_if {c : E} {a b : Ss} (h : tS T xt W' (fun ws m => evS C ws m (.if_ c a b)) D σ H) : tIfS (tTest (tE T xt W' fun ws m => evE C ws m c)) (tS T xt W' fun ws m => evSs C ws m a) (tS T xt W' fun ws m => evSs C ws m b) D σ H := by
  obtain ⟨F, ρ, m, ws, R, S, A⟩ := h
  simp only [evS] at A
  refine ⟨F, ρ, m, ws, R, S, (tst_after (A.toS S)).imp (fun F1 ρ1 H1 m1 w R1 l1 g1 k v hv => ?_) fun _ _ _ z => z⟩
  obtain ⟨b, rfl, k⟩ := k v hv
  have k := k R1
  refine ⟨b, rfl, ?_⟩
  cases b with
  | true => exact ⟨F1, ρ1, m1, ws, R1, S.mono l1 g1, k⟩
  | false => exact ⟨F1, ρ1, m1, ws, R1, S.mono l1 g1, k⟩
theorem q_fzs {i : Nat} {r : Ss} (h : tS T xt W' (fun ws m => evSs C ws m (.cons (.fzs i) r)) D σ H) : tS T xt W' (fun ws m => evSs C ws m r) D σ H := by
  obtain ⟨F, ρ, m, ws, R, S, A⟩ := h
  simp only [evSs, evS] at A
  cases e1 : ws[i]? with
  | none => rw [e1] at A; exact A.elim
  | some o =>
    cases o with
    | none => rw [e1] at A; exact A.elim
    | some w =>
      rw [e1] at A
      dsimp only at A
      cases e2 : fzR m w with
      | ok x m' =>
        rw [e2] at A
        obtain ⟨v, e3, hv⟩ := S.2 i w e1
        obtain ⟨F', l, R', hx⟩ := R.freeze hv e2
        have S' := (S.mono l .rfl').set (ρ := ρ) i (w := .d x) hx
        have e4 : σ.set i (some v) = σ := by
          apply List.ext_getElem?
          intro j
          by_cases h : i = j
          · subst h
            rw [List.getElem?_set_self (List.getElem?_eq_some_iff.mp e3).1, e3]
          · rw [List.getElem?_set_ne h]
        rw [e4] at S'
        exact ⟨F', ρ, m', _, R', S', AfterS.mono (r := evSs C _ m' r) A l .rfl'⟩
      | exc x m' =>
        rcases fzR_cases (m := m) (w := w) with q | ⟨_, _, q⟩ | ⟨_, _, _, _, _, _, q⟩ | ⟨_, _, _, _, _, _, _, q⟩ <;> (rw [q] at e2; cases e2)
      | stuck => rw [e2] at A; exact A.elim
theorem whGo_succ (c : Sl → Mu → Res Bool) (b : Sl → Mu → SR) (k : Nat) (ws : Sl) (m : Mu) : whGo c b (k + 1) ws m = (c ws m).toS ws fun t m1 => if t then (b ws m1).then fun σ2 m2 => whGo c b k σ2 m2 else .next ws m1 := rfl
theorem q_wh {c : E} {b : Ss} (h : tS T xt W' (fun ws m => evS C ws m (.wh c b)) D σ H) : tWhile (tTest (tE T xt W' fun ws m => evE C ws m c)) (tS T xt W' fun ws m => evSs C ws m b) D σ H := by
  obtain ⟨F, ρ, m, ws, R, S, A⟩ := h
  simp only [evS] at A
  refine ⟨fun k σ H => ∃ F ρ m ws, Rel T F ρ H m ∧ RSl T F ρ σ ws ∧ AfterS T xt W' D F ρ σ (whGo (fun ws m => tst (evE C ws m c)) (fun ws m => evSs C ws m b) k ws m), ⟨turns, F, ρ, m, ws, R, S, A⟩, ?_⟩
  rintro k σ H ⟨F, ρ, m, ws, R, S, A⟩
  cases k with
  | zero => exact A.elim
  | succ k =>
    rw [whGo_succ] at A
    refine ⟨F, ρ, m, ws, R, S, (tst_after (A.toS S)).imp (fun F1 ρ1 H1 m1 w R1 l1 g1 k2 v hv => ?_) fun _ _ _ z => z⟩
    obtain ⟨t, rfl, k2⟩ := k2 v hv
    have k2 := k2 R1
    refine ⟨t, rfl, ?_⟩
    cases t with
    | false => exact k2 F1 ρ1 H1 σ R1 Le.rfl' .rfl' (S.mono l1 g1)
    | true =>
      refine ⟨_, fun σ' H' hn => ⟨k, Nat.lt_succ_self k, hn⟩, F1, ρ1, m1, ws, R1, S.mono l1 g1, ?_⟩
      exact (show AfterS T xt W' D F1 ρ1 σ ((evSs C ws m1 b).then fun σ2 m2 => whGo _ _ k σ2 m2) from k2).then.imp (fun σ' H' ⟨F1, ρ1, m1, ws1, R1, S1, _, A1⟩ => ⟨F1, ρ1, m1, ws1, R1, S1, A1⟩) rfl
theorem q_for {g : Tg} {it : It} {b : Ss} (hK : K = T.K) (h : tS T xt W' (fun ws m => evS C ws m (.for_ g it b)) D σ H) :
    tFor (tI T xt W' fun ws m => evIt C ws m it) (gTg K g) (tS T xt W' fun ws m => evSs C ws m b) D σ H := by
  obtain ⟨F, ρ, m, ws, R, S, A⟩ := h
  simp only [evS] at A
  refine ⟨F, ρ, m, ws, R, S, (A.toS S).imp (fun F1 ρ1 H1 m1 us R1 l1 g1 A1 J hJ => ?_) fun _ _ _ z => z⟩
  refine ⟨fun i k σ H => k = us.length - i ∧ i ≤ us.length ∧ ∃ F2 ρ2 m2 ws2, Rel T F2 ρ2 H m2 ∧ Le F1 F2 ∧ RSl T F2 ρ2 σ ws2 ∧ AfterS T xt W' D F2 ρ2 σ (forGo g (fun ws m => evSs C ws m b) (us.drop i) ws2 m2),
    ⟨us.length, by simp, Nat.zero_le _, F1, ρ1, m1, ws, R1, Le.rfl', S.mono l1 g1, by simpa using A1⟩, ?_⟩
  rintro i k σ2 H2 ⟨rfl, hi, F2, ρ2, m2, ws2, R2, l2, S2, A2⟩
  by_cases hlt : i < us.length
  · have hd : us.drop i = us[i] :: us.drop (i + 1) := by rw [List.drop_eq_getElem_cons hlt]
    rw [hd] at A2
    unfold forGo at A2
    refine .inr ⟨hJ.go i F2 H2 l2 R2.sub hlt, fun σ' H' => ∃ F3 ρ3 m3 ws3, Rel T F3 ρ3 H' m3 ∧ Le F1 F3 ∧ RSl T F3 ρ3 σ' ws3 ∧ AfterS T xt W' D F3 ρ3 σ' (forGo g (fun ws m => evSs C ws m b) (us.drop (i + 1)) ws3 m3),
      fun σ' H' hn => ⟨us.length - (i + 1), by omega, rfl, hlt, hn⟩, fun x H3 y => ?_⟩
    obtain ⟨F3, l3, R3, hx⟩ := hJ.yld i T.side F2 ρ2 H2 m2 x H3 us[i] R2 l2 (by simp) y
    split at A2
    · rename_i ws3 e1
      refine bind_g hK R3.sub e1 hx (S2.mono l3 .rfl') fun σ4 S4 _ _ => ?_
      refine ⟨F3, ρ2, m2, ws3, R3, S4, ?_⟩
      have A3 := AfterS.mono (σ := σ2) (r := (evSs C ws3 m2 b).then fun σ2 m2 => forGo g (fun ws m => evSs C ws m b) (us.drop (i + 1)) σ2 m2) A2 l3 .rfl'
      exact A3.then.imp (fun σ' H' ⟨F6, ρ6, m6, ws6, R6, S6, l6, A6⟩ => ⟨F6, ρ6, m6, ws6, R6, (l2.trans l3).trans l6, S6, A6⟩) rfl
    · exact A2.elim
  · have hie : i = us.length := by omega
    subst hie
    rw [List.drop_length] at A2
    exact .inl ⟨hJ.stop F2 H2 l2 R2.sub, A2 F2 ρ2 H2 σ2 R2 Le.rfl' .rfl' S2⟩
/-! ### a def's end -/
theorem end_ok {F : Hp} {ρ : Ro} {m : Mu} {r : SR} {Q : VK} {e : XK} (hm : ρ.length = m.length) (h : After T xt F ρ (endS m.length r) (KV1 T Q) e) :
    AfterS T xt (fun c dx _ H => e c dx H) { nx := fun _ H' => Q .non H', rt := Q, bk := D.bk, ct := D.ct } F ρ σ r := by
  have tk : ∀ {F' ρ' H' m'}, Rel T F' ρ' H' m' → RoLe ρ ρ' → Rel T F' (ρ'.take m.length) H' (m'.take m.length) ∧ RoLe ρ (ρ'.take m.length) := fun {F' ρ' H' m'} R g => by
    refine ⟨R.take _, ?_, fun n p e => ?_⟩
    · rw [List.length_take]; have := g.1; omega
    · obtain ⟨as, e1⟩ := g.2 n p e
      have := (List.getElem?_eq_some_iff.mp e).1
      exact ⟨as, by rw [List.getElem?_take, if_pos (by omega), e1]⟩
  cases r with
  | next ws m' =>
    intro F' ρ' H' σ' R l g S
    obtain ⟨R2, g2⟩ := tk R g
    exact h F' _ H' R2 l g2 _ .non
  | ret w ws m' =>
    intro F' ρ' H' v R l g hv
    obtain ⟨R2, g2⟩ := tk R g
    cases w with
    | d x => exact h F' _ H' R2 l g2 _ hv
    | kt x => exact h F' _ H' R2 l g2 _ hv
    | h k =>
      have h' : After T xt F ρ (if k < m.length then .ok (.h k) (m'.take m.length) else .stuck) (KV1 T Q) e := h
      by_cases hk : k < m.length
      · rw [if_pos hk] at h'
        obtain ⟨p, e1, rfl⟩ := hv
        exact h' F' _ H' R2 l g2 _ ⟨p, by rw [List.getElem?_take, if_pos hk]; exact e1, rfl⟩
      · rw [if_neg hk] at h'; exact h'.elim
    | hi n f => exact h.elim
    | clo l cap => exact h.elim
  | exc x ws m' =>
    intro F' ρ' H' σ' c dx R l g S rx
    obtain ⟨R2, g2⟩ := tk R g
    exact h F' _ H' c dx R2 l g2 rx
  | stuck => exact h
end
end Cn

/-! # an exception without a field: raise C() -/
namespace Cn
open PySem PySem.Spec PyProof.Rows L2
/-- what its __init__ leaves: all as it was -/
def spB (C : Addr) : Sp := fun vs H Q _ => ∃ a : Addr, vs = [.ref a] ∧ H a = some (exo a C none) ∧ Q .non H
section
variable {X : Cx} {pins : List (Addr × Obj)} {σ : L2.St} {H1 : Hp}
theorem bare_end {hp hp2 h2 : Heap} {g1 g2 : Array GenState} {d1 d2 : Drawn} {t1 t2 : Nat} {os1 os2 : OsState} {a C : Addr} (I1 : Inv X pins σ H1 ⟨hp, g1, d1, t1, os1⟩) (ha : hp.objs.size ≤ a)
    (k : ∀ b o, hp.get? b = some o → hp2.get? b = some o) (un : Un (frs X.stack) [] (upd H1 a (exo a C none)) (upd H1 a (exo a C none)) hp2 h2) (hok : HOk X.prog X.w (upd H1 a (exo a C none)) h2) (eos : os2 = os1) (bare : AllBare g2) :
    ∃ (t0 : Addr) (G : Heap), Inv X pins σ H1 ⟨G, g2, d2, t2, os2⟩ ∧ (∀ b o, G.get? b = some o → h2.get? b = some o) ∧ G.get? a = none ∧
      h2.get? a = some ({ cls := .ref C, dict := none, data := .fields #[.ref t0, .none, .none, .none, .bool false, .none] } : Obj) ∧ H1 a = none := by
  have fresh : H1 a = none := I1.hok.fresh ha
  obtain ⟨t0, obj⟩ := exo_at hok (upd_same : (upd H1 a (exo a C none)) a = some (exo a C none))
  obtain ⟨G, inG, outG⟩ := restrict h2 fun b => decide (b ≠ a)
  have same : ∀ b, b ≠ a → G.get? b = h2.get? b := fun b nb => inG b (decide_eq_true nb)
  have gone : G.get? a = none := outG a (by simp)
  have older : ∀ {b : Addr} {o : Obj}, hp.get? b = some o → b ≠ a := fun {b o} e => Nat.ne_of_lt (Nat.lt_of_lt_of_le (Heap.lt_size e) ha)
  have lower : ∀ {b : Addr}, b ≠ a → (upd H1 a (exo a C none)) b = H1 b := fun {b} nb => upd_ne nb
  have U : Un (frs X.stack) [] H1 H1 hp G :=
    ⟨fun b o e n f x => (same b (older e)).trans (un.keep b o (k b o e) ((lower (older e)).trans n) f x), fun b o e n f x => by
      obtain ⟨sl, q⟩ := un.slot b o (k b o e) ((lower (older e)).trans n) f x
      exact ⟨sl, (same b (older e)).trans q⟩, fun _ _ _ n _ => n, fun b o e x => by
      obtain ⟨o', q⟩ := un.there b o (k b o e) x
      exact ⟨o', (same b (older e)).trans q⟩, fun _ _ e => e, fun _ _ _ e => e, fun b ps e => ⟨#[], by rw [e]; simp⟩⟩
  have hok1 : HOk X.prog X.w H1 G := fun b u e => by
    have nb : b ≠ a := ne_of_none e fresh
    have up : ∀ {c : Addr} {z : HO}, (upd H1 a (exo a C none)) c = some z → exo a C none ≠ z → c ≠ a ∧ H1 c = some z := fun {c z} q d => by
      by_cases h : c = a
      · rw [h, upd_same] at q
        exact absurd (Option.some.inj q) d
      · exact ⟨h, by rw [← lower h]; exact q⟩
    refine (hok b u ((lower nb).trans e)).stay (fun c v hc y => ?_) (fun c hc => (up hc exo_own).2) fun c xs hc => (up hc exo_tup).2
    have nc : c ≠ a := by
      rcases hc with hc | hc
      · rw [hc]; exact nb
      · exact (up hc exo_own).1
    exact (same c nc).trans y
  refine ⟨t0, G, I1.call' (ch := []) eos U hok1 bare (fun b z => absurd z (by simp)), fun b o e => ?_, gone, obj, fresh⟩
  by_cases nb : b = a
  · rw [nb, gone] at e; cases e
  · exact (same b nb).symm.trans e
theorem pmk_bare {CX : CXT} {x : Str} {C fI : Addr} {k : Nat} {fd : FuncData} {ps : List Str} {p pos : Pos} (T : OexC X.K C) (iC : PySem.W.findIn X.K (.ref C) "__init__" = some (some (.ref fI))) (tI : PySem.W.typeIn X.K (.ref fI) = some (.type "function"))
    (F1 : FnOk X.prog X.w X.K X.mg X.base CX k fI fd ps (spB C)) (hr : Room (k + 1) X.A) (hb : Binds X.K fd ps []) (hx : Passes CX X (fun _ _ _ => False)) (hg : Gl X x) (hm : X.mg x = some (.ref C)) (hdb : (x == ("__debug__" : Str)) = false) :
    L2N.PMk X (.Call (.Name x p) [] [] pos) (fun _ H Q => Q (.ref C) none H) := by
  intro pins s σ H Q I q0
  obtain ⟨nm, qn, N, bs, bm, sn, sub, ab, col, dd, k0, k1, k2, k3, k5, hC, hbm⟩ := T.cls
  refine wpAny_Call_Name_kw (ld_glob I hg hm ?_ hdb)
  refine PySem.W.callWith_K0 I.kIn T.kC ?_
  obtain ⟨hp, g, dr, tk, os⟩ := s
  have big : hp.objs.size ≤ hp.objs.size + 1 := Nat.le_succ _
  have free : H (hp.objs.size + 1) = none := I.hok.fresh big
  have grow : ∀ b o, hp.get? b = some o → ((hp.push (PySem.W.kdv_tup [])).push (PySem.HandSPX.excO C hp.objs.size)).get? b = some o := fun b o e => Heap.get?_push_of_some _ (Heap.get?_push_of_some _ e)
  have made : ((hp.push (PySem.W.kdv_tup [])).push (PySem.HandSPX.excO C hp.objs.size)).get? (hp.objs.size + 1) = some (PySem.HandSPX.excO C hp.objs.size) := by heap_get
  have I2 : Inv X pins σ (upd H (hp.objs.size + 1) (exo (hp.objs.size + 1) C none)) ⟨(hp.push (PySem.W.kdv_tup [])).push (PySem.HandSPX.excO C hp.objs.size), g, dr, tk, os⟩ := I.laid grow big (exo_ok made)
  have prom : spB C [V.ref (hp.objs.size + 1)] (upd H (hp.objs.size + 1) (exo (hp.objs.size + 1) C none)) (fun v H2 => v = .non ∧ H2 = upd H (hp.objs.size + 1) (exo (hp.objs.size + 1) C none)) (fun _ _ _ => False) := ⟨_, rfl, upd_same, rfl, rfl⟩
  have many : ([Value.ref (hp.objs.size + 1)] ++ []).length = ps.length := (F1.len _ _ _ _ prom)
  have bnd := hb ⟨(hp.push (PySem.W.kdv_tup [])).push (PySem.HandSPX.excO C hp.objs.size), g, dr, tk, os⟩ [Value.ref (hp.objs.size + 1)] I2.kIn many
  rw [List.append_nil] at bnd
  have ran := F1.run _ X.stack _ _ ⟨[Value.ref (hp.objs.size + 1)], []⟩ [Value.ref (hp.objs.size + 1)] [V.ref (hp.objs.size + 1)] _ (fun _ _ _ => False) (hr.make C [] []) (I2.env0.make C [] []) bnd (.cons (show RelV (V.ref (hp.objs.size + 1)) (Value.ref (hp.objs.size + 1)) from rfl) .nil) prom
  refine wpAny_call (PySem.HandSPX.call_own PySem.F.excBase_ValueError (fun Y => PySem.HandSPX.refsVE_contains Y bm hbm) (I.kIn _ _ hC) (PySem.W.looks_findIn I.kIn iC) (fun self => PySem.W.bind_fn I.kIn self tI) (Nat.zero_le _) (codeAny_mono ran fun r s' fin => ?_))
  cases r with
  | error er => exact hx pins σ _ _ er s' I2 fin
  | ok fl =>
    cases fl with
    | ret u =>
      obtain ⟨v, H2, e2, b2, un2, hok2, rv, rfl, rfl⟩ := fin
      obtain ⟨h2, g2, dd2, tt2, os'⟩ := s'
      refine ⟨rv, ?_⟩
      obtain ⟨t0, G, J, sub2, gone, obj, nn⟩ := bare_end (d2 := dd2) (t2 := tt2) I big grow un2 hok2 e2 b2
      exact ⟨_, _, _, ⟨G, g2, dd2, tt2, os'⟩, H, .ref C, none, rfl, J, sub2, gone, obj, ⟨rfl, rfl, fun vs e => by cases e; rfl⟩, rfl, rfl, nn, rfl, b2, raises_own T.exC T.tyC, q0⟩
    | next => exact False.elim fin
    | brk => exact False.elim fin
    | cont => exact False.elim fin
end
end Cn

/-! # exceptions without a context: what is told of them is told of any -/
namespace Cn
open PySem PySem.Spec PyProof.Rows L2
theorem tracedN {h B : Heap} {a : Addr} {cls : Value} {d : Option Addr} {fl : Value} (x : HandSPX.TracedZ h B a (L2N.Zn cls d) fl) : HandSPX.TracedZ h B a (Zc cls d) fl := by
  obtain ⟨oe, vs, Tb, oT, ts, h1, h2, r⟩ := x
  exact ⟨oe, vs, Tb, oT, ts, h1, h2.zc, r⟩
theorem flyingN {h B : Heap} {l : List Env} {a : Addr} {cls : Value} {d : Option Addr} (x : HandSPX.FlyingZ B l a (L2N.Zn cls d) h) : HandSPX.FlyingZ B l a (Zc cls d) h := ⟨x.1, x.2.1, x.2.2.1, tracedN x.2.2.2⟩
theorem cxN {P : Program} {w : World} {outer : List Env} {H : Hp} {s : Shared} {E : XK} {u : Value} {s' : Shared} (c : L2N.CX P w outer H s E u s') : L2.CX P w outer H s E u s' := by
  obtain ⟨a, B, H', cls, d, e, fl, r⟩ := c
  exact ⟨a, B, H', cls, d, e, flyingN fl, r⟩
theorem takesN {X : Cx} {W' : WX} (t : L2.Takes X W') : L2N.Takes X W' := fun u s' ⟨a, B, sI, pins, σ, H, cls, d, e, I, nb, up, sky, r⟩ =>
  t u s' ⟨a, B, sI, pins, σ, H, cls, d, e, I, nb, up, by
    rcases sky with ⟨h1, h2, h3, oe, vs, h4, h5, h6⟩ | fl | ⟨h1, h2, h3, h4⟩
    · exact .inl ⟨h1, h2, h3, oe, vs, h4, h5.zc, h6⟩
    · exact .inr (.inl (flyingN fl))
    · exact .inr (.inr ⟨h1, h2, h3, tracedN h4⟩), r⟩
/-- C(e, ..), C's own __init__ keeping sp: what is made has no context -/
theorem pmk_oexN {X : Cx} {e : Expr} {es : List Expr} {ta : TA} {CX : CXT} {x : Str} {C fI : Addr} {k : Nat} {fd : FuncData} {ps : List Str} {sp : Sp} {p pos : Pos} (T : OexC X.K C) (iC : PySem.W.findIn X.K (.ref C) "__init__" = some (some (.ref fI))) (tI : PySem.W.typeIn X.K (.ref fI) = some (.type "function"))
    (F1 : FnOk X.prog X.w X.K X.mg X.base CX k fI fd ps sp) (hr : Room (k + 1) X.A) (hb : Binds X.K fd ps []) (hx : Passes CX X (fun _ _ _ => False)) (hg : Gl X x) (hm : X.mg x = some (.ref C)) (ha : PA X (e :: es) ta)
    (hdb : (x == ("__debug__" : Str)) = false) (he : starEach (e :: es) X.env = (false, eval e X.env) :: starEach es X.env) (hpl : (backTo pos (starEach es X.env)).any (·.1) = false) :
    L2N.PMk X (.Call (.Name x p) (e :: es) [] pos) (tMkO C sp [] ta) := by
  intro pins s σ H Q I q0
  obtain ⟨nm, qn, N, bs, bm, sn, sub, ab, col, dd, k0, k1, k2, k3, k5, hC, hbm⟩ := T.cls
  refine wpAny_Call_Name_kw (ld_glob I hg hm ?_ hdb)
  refine PySem.W.callWith_K (h₀ := X.base) I.ok.mod.kin T.kC (thn (ha.run pos pins s σ H _ I q0) fun us s1 ⟨vs, H1, I1, rv, many, prom⟩ => ⟨I1.kIn, ?_⟩) he hpl
  obtain ⟨hp, g, dr, tk, os⟩ := s1
  have big : hp.objs.size ≤ hp.objs.size + 1 := Nat.le_succ _
  have prom := prom (hp.objs.size + 1) (I1.hok.fresh big)
  rw [List.append_nil] at prom
  have grow : ∀ b o, hp.get? b = some o → ((hp.push (PySem.W.kdv_tup us)).push (PySem.HandSPX.excO C hp.objs.size)).get? b = some o := fun b o z => Heap.get?_push_of_some _ (Heap.get?_push_of_some _ z)
  have made : ((hp.push (PySem.W.kdv_tup us)).push (PySem.HandSPX.excO C hp.objs.size)).get? (hp.objs.size + 1) = some (PySem.HandSPX.excO C hp.objs.size) := by heap_get
  have I2 : Inv X pins σ (upd H1 (hp.objs.size + 1) (exo (hp.objs.size + 1) C none)) ⟨(hp.push (PySem.W.kdv_tup us)).push (PySem.HandSPX.excO C hp.objs.size), g, dr, tk, os⟩ := I1.laid grow big (exo_ok made)
  have rv2 : Vals (V.ref (hp.objs.size + 1) :: vs) (Value.ref (hp.objs.size + 1) :: us) := .cons (show RelV (V.ref (hp.objs.size + 1)) (Value.ref (hp.objs.size + 1)) from rfl) rv
  have len2 : (Value.ref (hp.objs.size + 1) :: us).length = ps.length := by rw [← rv2.length]; exact F1.len _ _ _ _ prom
  have bnd := hb ⟨(hp.push (PySem.W.kdv_tup us)).push (PySem.HandSPX.excO C hp.objs.size), g, dr, tk, os⟩ (Value.ref (hp.objs.size + 1) :: us) I2.kIn (by rw [List.append_nil]; exact len2)
  rw [List.append_nil] at bnd
  have few : us.length ≤ sizeLine := by
    rw [← Paired.length rv, sizeLine_eq]
    omega
  have ran := F1.run _ X.stack _ _ ⟨Value.ref (hp.objs.size + 1) :: us, []⟩ (Value.ref (hp.objs.size + 1) :: us) (V.ref (hp.objs.size + 1) :: vs) _ (fun _ _ _ => False) (hr.make C us []) (I2.env0.make C us []) bnd rv2 prom
  refine wpAny_call (PySem.HandSPX.call_own PySem.F.excBase_ValueError (fun Y => PySem.HandSPX.refsVE_contains Y bm hbm) (I1.kIn _ _ hC) (PySem.W.looks_findIn I1.kIn iC) (fun self => PySem.W.bind_fn I1.kIn self tI) few (codeAny_mono ran fun r s' fin => ?_))
  cases r with
  | error er => exact hx pins σ _ _ er s' I2 fin
  | ok fl =>
    cases fl with
    | ret u =>
      obtain ⟨v, H2, e2, b2, un2, hok2, rv3, rfl, d, fs, ea, ed, hd1, q2⟩ := fin
      obtain ⟨h2, g2, dd2, tt2, os'⟩ := s'
      refine ⟨rv3, ?_⟩
      obtain ⟨t0, G, J, sub2, gone, obj, nn⟩ := mk_end0 (d2 := dd2) (t2 := tt2) I1 big grow un2 hok2 e2 b2 ea ed hd1
      exact ⟨_, _, _, ⟨G, g2, dd2, tt2, os'⟩, _, .ref C, some d, rfl, J, sub2, gone, obj, ⟨rfl, rfl, fun vs e => by cases e; rfl⟩, rfl, rfl, nn, rfl, b2, raises_own T.exC T.tyC, q2⟩
    | next => exact False.elim fin
    | brk => exact False.elim fin
    | cont => exact False.elim fin
/-- the mode of a def: what it raises has no context -/
def cxM (b : Bool) (P : Program) (w : World) : CXT := if b then L2N.CX P w else L2.CX P w
theorem passM {X : Cx} {W' : WX} {b : Bool} (t2 : b = false → L2.Takes X W') (tN : L2N.Takes X W') (σ : L2.St) : PassesAt (cxM b X.prog X.w) X σ (WE W' σ) := by
  cases b with
  | true => exact L2N.passAt tN σ
  | false => exact passAt (t2 rfl) σ
end Cn

/-! # the text against the language: expressions -/
namespace Cn
open PySem PySem.Spec PyProof.Rows L2
mutual
def D.same : D → D → Bool
  | .non, b => (match b with | .non => true | _ => false)
  | .bl a, b => (match b with | .bl c => a == c | _ => false)
  | .int i, b => (match b with | .int j => decide (i = j) | _ => false)
  | .str x, b => (match b with | .str y => decide (x = y) | _ => false)
  | .tup xs, b => (match b with | .tup ys => D.sames xs ys | _ => false)
  | .lst _, _ => false
  | .ins _ _, _ => false
  | .dK _ _, _ => false
  | .dT _ _, _ => false
def D.sames : List D → List D → Bool
  | [], ys => ys.isEmpty
  | x :: r, ys => (match ys with | [] => false | y :: s => D.same x y && D.sames r s)
end
mutual
theorem same_eq : ∀ (x y : D), x.same y = true → x = y
  | .non, y, h => by cases y <;> first | rfl | (unfold D.same at h; cases h)
  | .bl a, y, h => by
    cases y <;> unfold D.same at h <;> first | (cases h; done) | skip
    rw [eq_of_beq h]
  | .int i, y, h => by
    cases y <;> unfold D.same at h <;> first | (cases h; done) | skip
    rw [of_decide_eq_true h]
  | .str x, y, h => by
    cases y <;> unfold D.same at h <;> first | (cases h; done) | skip
    rw [of_decide_eq_true h]
  | .tup xs, y, h => by
    cases y <;> unfold D.same at h <;> first | (cases h; done) | skip
    rw [sames_eq _ _ h]
  | .lst _, _, h => by unfold D.same at h; cases h
  | .ins _ _, _, h => by unfold D.same at h; cases h
  | .dK _ _, _, h => by unfold D.same at h; cases h
  | .dT _ _, _, h => by unfold D.same at h; cases h
theorem sames_eq : ∀ (xs ys : List D), D.sames xs ys = true → xs = ys
  | [], ys, h => by cases ys <;> first | rfl | (unfold D.sames at h; cases h)
  | x :: r, ys, h => by
    cases ys with
    | nil => unfold D.sames at h; cases h
    | cons y s =>
      unfold D.sames at h
      obtain ⟨h1, h2⟩ := dec_and h
      rw [same_eq _ _ h1, sames_eq _ _ h2]
end

/-- what the module's names stand for -/
structure Tb where
  dn : List (Option Str)
  nums : List (Str × Int)
  tups : List (Str × D)
  free : List Str
  dics : List (Str × List (Int × Int))
  /-- the exceptions' names, their fields -/
  xn : List Str
  xf : List (List Str)
  /-- the defs whose exceptions have no context -/
  md : List Bool
structure Gam where
  tb : Tb
  N : List Str
  sc : Scope
  fa : Bool
  /-- only such defs may be called -/
  n : Bool
  /-- not within a try -/
  t : Bool
def okN (y : Str) : Bool := !(y == ("__debug__" : Str)) && !(y == ("__classdict__" : Str)) && decide (y ≠ ("__name__" : Str))
def Gam.vis (Γ : Gam) (y : Str) : Bool := match Γ.sc.names.lookup y with
  | some .local => true
  | some .cell => true
  | some .free => true
  | _ => false
def Gam.gl (Γ : Gam) (y : Str) : Bool := match Γ.sc.names.lookup y with
  | some .globalImplicit => true
  | _ => false
def Gam.tgt (Γ : Gam) (y : Str) : Bool := match Γ.sc.names.lookup y with
  | some .local => true
  | some .cell => Γ.fa
  | _ => false
/-- a built-in's name -/
def Gam.bi (Γ : Gam) (y x : Str) : Bool := decide (y = x) && Γ.gl y && Γ.tb.free.contains y && okN y
def nst : Expr → Bool
  | .Starred _ _ => false
  | _ => true
def nsl : Expr → Bool
  | .Slice _ _ _ _ => false
  | _ => true
def nset : Expr → Bool
  | .Set _ _ _ => false
  | _ => true
def nsup : Expr → Bool
  | .Call _ _ _ _ => false
  | _ => true
def nt : Expr → Bool
  | .UnaryOp .Not _ _ => false
  | .BoolOp _ _ _ => false
  | .IfExp _ _ _ _ => false
  | .Compare _ _ _ _ => false
  | _ => true
def nif : Expr → Bool
  | .IfExp _ _ _ _ => false
  | _ => true
def boP : Bo → Operator
  | .add => .Add
  | .sub => .Sub
  | .mul => .Mult
  | .fdiv => .FloorDiv
  | .mod => .Mod
def biN : Bi → Str
  | .len => "len"
  | .ord => "ord"
  | .tuple => "tuple"
  | .any => "any"
  | .all => "all"
  | .str => "str"
  | .int => "int"
  | .max => "max"
def blkSc (scope sc : Scope) : Scope :=
  { scope with names := scope.names.map fun (n, k) => if (k == .free && sc.kind == .function && sc.names.lookup n == some .cell) then (n, .cell) else (n, k) }
def Gam.blk (Γ : Gam) (scope : Scope) : Gam := { Γ with sc := blkSc scope Γ.sc, fa := false }
def mNames (Γ : Gam) : List Nat → List Expr → Bool
  | [], es => es.isEmpty
  | i :: r, es => (match es with
    | .Name y _ :: s => decide (Γ.N[i]? = some y) && Γ.tgt y && mNames Γ r s
    | _ => false)
def mTg (Γ : Gam) (g : Tg) (pe : Expr) : Bool := match g with
  | .n i => (match pe with | .Name y _ => decide (Γ.N[i]? = some y) && Γ.tgt y | _ => false)
  | .t is => (match pe with | .Tuple es _ _ => mNames Γ is es | _ => false)
def isBT : E → Bool
  | .bl true => true
  | _ => false
theorem isBT_eq {c : E} (h : isBT c = true) : c = .bl true := by
  unfold isBT at h
  split at h
  · rfl
  · cases h
def ownOf (N : List Str) (is : List Nat) : List (Str × Nat) := is.map fun i => (N.getD i Str.empty, i)
mutual
def mE (Γ : Gam) : E → Expr → Bool
  | .var i => fun pe => match pe with | .Name y _ => decide (Γ.N[i]? = some y) && Γ.vis y && okN y | _ => false
  | .int i => fun pe => match pe with
    | .Constant (.int j) _ _ => decide (i = j)
    | .UnaryOp .USub (.Constant (.int j) _ _) _ => decide (i = -j)
    | _ => false
  | .str cs => fun pe => match pe with | .Constant (.str x) _ _ => decide (strV cs = x) | _ => false
  | .bl b => fun pe => match pe with | .Constant (.bool c) _ _ => b == c | _ => false
  | .non => fun pe => match pe with | .Constant .none _ _ => true | _ => false
  | .gi _ i => fun pe => match pe with | .Name y _ => decide (Γ.tb.nums.lookup y = some i) && Γ.gl y && okN y | _ => false
  | .gt _ t => fun pe => match pe with | .Name y _ => Γ.tb.tups.any (fun p => p.1 == y && p.2.same t) && Γ.gl y && okN y | _ => false
  | .fz e => fun pe => mE Γ e pe
  | .bin o a b => fun pe => match pe with | .BinOp x op y _ => decide (op = boP o) && mE Γ a x && mE Γ b y | _ => false
  | .mulM a b => fun pe => match pe with | .BinOp x op y _ => decide (op = .Mult) && mE Γ a x && mE Γ b y | _ => false
  | .cmp o a b => fun pe => match pe with | .Compare x [op] [y] _ => decide (op = coP o) && nset y && mE Γ a x && mE Γ b y | _ => false
  | .ch o p a b c => fun pe => match pe with | .Compare x [op, op'] [y, z] _ => decide (op = coP o) && decide (op' = coP p) && nset z && mE Γ a x && mE Γ b y && mE Γ c z | _ => false
  | .and2 a b => fun pe => match pe with
    | .BoolOp .And [x, y] _ => nif x && nif y && mE Γ a x && mE Γ b y
    | .BoolOp .And (x :: y :: z :: r) pos => nif x && mE Γ a x && mE Γ b (.BoolOp .And (y :: z :: r) pos)
    | _ => false
  | .or2 a b => fun pe => match pe with
    | .BoolOp .Or [x, y] _ => nif x && nif y && mE Γ a x && mE Γ b y
    | .BoolOp .Or (x :: y :: z :: r) pos => nif x && mE Γ a x && mE Γ b (.BoolOp .Or (y :: z :: r) pos)
    | _ => false
  | .not a => fun pe => match pe with | .UnaryOp .Not x _ => nif x && mE Γ a x | _ => false
  | .ife c a b => fun pe => match pe with | .IfExp z x y _ => nif z && mE Γ c z && mE Γ a x && mE Γ b y | _ => false
  | .tup es => fun pe => match pe with | .Tuple xs _ _ => mEs Γ es xs | _ => false
  | .lst es => fun pe => match pe with | .List xs _ => mEs Γ es xs | _ => false
  | .lstM es => fun pe => match pe with | .List xs _ => mEs Γ es xs | _ => false
  | .ix a b => fun pe => match pe with | .Subscript x y _ => nsl y && mE Γ a x && mE Γ b y | _ => false
  | .sl a b c => fun pe => match pe with | .Subscript x (.Slice (some y) (some z) none _) _ => mE Γ a x && mE Γ b y && mE Γ c z | _ => false
  | .slF a b => fun pe => match pe with | .Subscript x (.Slice (some y) none none _) _ => mE Γ a x && mE Γ b y | _ => false
  | .slT a c => fun pe => match pe with | .Subscript x (.Slice none (some z) none _) _ => mE Γ a x && mE Γ c z | _ => false
  | .call f es => fun pe => match pe with
    | .Call (.Name y _) (x :: xs) [] _ => decide (Γ.tb.dn[f]? = some (some y)) && Γ.gl y && okN y && (!Γ.n || Γ.tb.md.getD f false) && mEs Γ es (x :: xs)
    | _ => false
  | .b1 b a => fun pe => match pe with | .Call (.Name y _) [x] [] _ => Γ.bi y (biN b) && nst x && mE Γ a x | _ => false
  | .dm a b => fun pe => match pe with | .Call (.Name y _) [x, z] [] _ => Γ.bi y "divmod" && nst x && nst z && mE Γ a x && mE Γ b z | _ => false
  | .app a b => fun pe => match pe with | .Call (.Attribute o nm ap) [x] [] cp => decide (nm = ("append" : Str)) && nsup o && (ap.endLine == cp.line) && nst x && mE Γ a o && mE Γ b x | _ => false
  | .ext a b => fun pe => match pe with | .Call (.Attribute o nm ap) [x] [] cp => decide (nm = ("extend" : Str)) && nsup o && (ap.endLine == cp.line) && nst x && mE Γ a o && mE Γ b x | _ => false
  | .pop a => fun pe => match pe with | .Call (.Attribute o nm ap) [] [] cp => decide (nm = ("pop" : Str)) && nsup o && (ap.endLine == cp.line) && mE Γ a o | _ => false
  | .lc g it c el => fun pe => match pe with
    | .ListComp x [⟨tg, i, ifs, 0⟩] scope _ => nset i && mE Γ it i && blkC Γ.N Γ.sc scope (ownOf Γ.N (tgs g)) && mTg (Γ.blk scope) g tg && mE (Γ.blk scope) el x &&
        (match ifs with
          | [] => isBT c
          | [q] => nif q && mE (Γ.blk scope) c q
          | _ => false)
    | _ => false
  | .gin _ ps a => fun pe => match pe with | .Compare x [.In] [.Name y _] _ => decide (Γ.tb.dics.lookup y = some ps) && Γ.gl y && okN y && mE Γ a x | _ => false
  | .gget _ ps a => fun pe => match pe with | .Subscript (.Name y _) x _ => decide (Γ.tb.dics.lookup y = some ps) && Γ.gl y && okN y && nsl x && mE Γ a x | _ => false
  | _ => fun _ => false
def mEs (Γ : Gam) : Es → List Expr → Bool
  | .nil => fun xs => xs.isEmpty
  | .cons e es => fun xs => match xs with | x :: r => nst x && mE Γ e x && mEs Γ es r | _ => false
end
end Cn

/-! # the matched expressions keep what the evaluator says -/
namespace Cn
open PySem PySem.Spec PyProof.Rows L2
/-- a callee's promise, whatever lies aside -/
def spA (T : Tx) (xt : Xt) (c : List W → Mu → Res W) : Sp := fun vs H Q E => ∃ s, spR (T.wi s) xt c vs H Q E
structure CtxE (C : Calls) (xt : Xt) (Γ : Gam) (T : Tx) (X : Cx) (W' : WX) : Prop where
  hK : X.K = T.K
  hN : X.N = Γ.N
  nd : Γ.N.Nodup
  sc : X.env.scope = Γ.sc
  calm : X.calm = true
  un : X.A.units + 66 < cLine
  fa : Γ.fa = true → ∀ x, X.fn x = true
  tkN : L2N.Takes X W'
  tk2 : Γ.n = false → L2.Takes X W'
  nums : ∀ x i, Γ.tb.nums.lookup x = some i → ∃ u, X.mg x = some u ∧ RelV (.int i) u
  tups : ∀ p ∈ Γ.tb.tups, ∃ v u, X.mg p.1 = some u ∧ RelV v u ∧ RK T.K v p.2
  free : ∀ x ∈ Γ.tb.free, X.mg x = none
  dics : ∀ x ps, Γ.tb.dics.lookup x = some ps → ∃ a, X.mg x = some (.ref a) ∧ diB X.K a ps = true
  cal : ∀ f x, Γ.tb.dn[f]? = some (some x) → ∃ a fd ps k, X.mg x = some (.ref a) ∧ PySem.W.keepIn X.K (.ref a) = true ∧ Binds X.K fd ps [] ∧ Room k X.A ∧ FnOk X.prog X.w X.K X.mg X.base (cxM (Γ.tb.md.getD f false) X.prog X.w) k a fd ps (spA T xt (C f))
section
variable {C : Calls} {xt : Xt} {Γ : Gam} {T : Tx} {X : Cx} {W' : WX}
theorem CtxE.wi (G : CtxE C xt Γ T X W') (s : Hp) : CtxE C xt Γ (T.wi s) X W' := ⟨G.hK, G.hN, G.nd, G.sc, G.calm, G.un, G.fa, G.tkN, G.tk2, G.nums, G.tups, G.free, G.dics, G.cal⟩
theorem CtxE.blk (G : CtxE C xt Γ T X W') (s : Shared) (H : Hp) (scope : Scope) (Ca : Addr) (cl : List (Str × Addr)) (fp : List Addr) : CtxE C xt (Γ.blk scope) T (X.blk s H scope (compEnvC scope cl Ca X.env) fp) WF := by
  refine ⟨G.hK, G.hN, G.nd, ?_, G.calm, G.un, (fun h => nomatch h), (fun u s' x => ?_), (fun _ u s' x => ?_), G.nums, G.tups, G.free, G.dics, G.cal⟩
  · show relabel scope X.env = blkSc scope Γ.sc
    rw [← G.sc]; rfl
  · obtain ⟨_, _, _, _, _, _, _, _, _, _, _, _, _, _, _, _, z⟩ := x
    exact z.elim
  · obtain ⟨_, _, _, _, _, _, _, _, _, _, _, _, _, _, _, _, z⟩ := x
    exact z.elim
theorem star_cons {e : Expr} {es : List Expr} {env : Env} (h : nst e = true) : starEach (e :: es) env = (false, eval e env) :: starEach es env := by
  cases e <;> first | rfl | cases h
theorem okN_d {y : Str} (h : okN y = true) : (y == ("__debug__" : Str)) = false ∧ (y == ("__classdict__" : Str)) = false ∧ y ≠ ("__name__" : Str) := by
  unfold okN at h
  obtain ⟨h, h3⟩ := dec_and h
  obtain ⟨h1, h2⟩ := dec_and h
  exact ⟨by simpa using h1, by simpa using h2, of_decide_eq_true h3⟩
theorem vis_of (G : CtxE C xt Γ T X W') {y : Str} (h : Γ.vis y = true) : Vis X.env.scope y := by
  unfold Gam.vis at h
  unfold Vis
  rw [G.sc]
  split at h <;> first | (rename_i e; rw [e]; simp) | cases h
theorem gl_of (G : CtxE C xt Γ T X W') {y : Str} (h : Γ.gl y = true) : Gl X y := by
  unfold Gam.gl at h
  show X.env.scope.names.lookup y = some .globalImplicit
  rw [G.sc]
  split at h <;> first | (rename_i e; exact e) | cases h
theorem tgt_of (G : CtxE C xt Γ T X W') {y : Str} (h : Γ.tgt y = true) : L2.Loc X.env.scope y ∧ (X.fn y = true ∨ X.env.scope.names.lookup y = some .local) := by
  unfold Gam.tgt at h
  unfold L2.Loc
  rw [G.sc]
  split at h
  · rename_i e; rw [e]; simp
  · rename_i e; rw [e]; exact ⟨.inr rfl, .inl (G.fa h y)⟩
  · cases h
theorem bi_of (G : CtxE C xt Γ T X W') {y x : Str} (h : Γ.bi y x = true) : y = x ∧ Gl X y ∧ X.mg y = none ∧ okN y = true := by
  unfold Gam.bi at h
  obtain ⟨h, h4⟩ := dec_and h
  obtain ⟨h, h3⟩ := dec_and h
  obtain ⟨h1, h2⟩ := dec_and h
  exact ⟨of_decide_eq_true h1, gl_of G h2, G.free y (by simpa using h3), h4⟩
theorem slot_of (G : CtxE C xt Γ T X W') {i : Nat} {y : Str} (h : Γ.N[i]? = some y) : X.N[i]? = some y := by rw [G.hN]; exact h
theorem nd_of (G : CtxE C xt Γ T X W') : X.N.Nodup := by rw [G.hN]; exact G.nd
theorem nt_is {e : Expr} {env : Env} (h : nt e = true) : ∀ whole, isTrue e env whole = (do let v ← whole; standAt e.pos; holding [v] (truthy v)) := by
  intro whole
  cases e <;> first | rfl | skip
  · cases h
  · rename_i op x p
    cases op <;> first | rfl | cases h
  · cases h
  · cases h
theorem nsl_ix {b : Expr} (h : nsl b = true) : PlainIx b := by
  intro o i
  cases b <;> first | rfl | cases h
theorem nset_bh {b : Expr} (h : nset b = true) (op : CmpOp) : behindInMarks op b = false := by
  cases b <;> first | rfl | cases h
theorem nset_fold {b : Expr} (h : nset b = true) (env : Env) : ∀ x, foldedSetIterable b env x = pure x := by
  intro x
  cases b <;> first | rfl | cases h
theorem nsup_at {o : Expr} {n : Str} {env : Env} (h : nsup o = true) : attributeBase o n env (eval o env) = eval o env := by
  cases o <;> first | rfl | cases h
theorem lastM {op op' : CmpOp} {b c : Expr} (h : nset c = true) : lastMarks [op, op'] [b, c] = false := nset_bh h op'
theorem mEs_star : ∀ {es : Es} {xs : List Expr} {pos : Pos} {env : Env}, mEs Γ es xs = true → (backTo pos (starEach xs env)).any (·.1) = false
  | .nil, xs, pos, env, h => by
    unfold mEs at h
    cases xs with
    | nil => rfl
    | cons _ _ => cases h
  | .cons e es, xs, pos, env, h => by
    unfold mEs at h
    cases xs with
    | nil => cases h
    | cons x r =>
      obtain ⟨h, h3⟩ := dec_and h
      obtain ⟨h1, h2⟩ := dec_and h
      rw [star_cons h1]
      have := mEs_star (es := es) (pos := pos) (env := env) h3
      simp only [backTo, List.map_cons, List.any_cons, Bool.false_or] at this ⊢
      exact this
theorem mNames_of (G : CtxE C xt Γ T X W') : ∀ {is : List Nat} {es : List Expr}, mNames Γ is es = true → PGs X es (gIs is) ∧ (assignEach es X.env).length = is.length ∧ (assignEach es X.env).findIdx? (·.1) = none
  | [], es, h => by
    unfold mNames at h
    cases es with
    | nil => exact ⟨pgs_nil, rfl, rfl⟩
    | cons _ _ => cases h
  | i :: r, es, h => by
    unfold mNames at h
    split at h
    · rename_i y p s
      obtain ⟨h, h3⟩ := dec_and h
      obtain ⟨h1, h2⟩ := dec_and h
      obtain ⟨q1, q2, q3⟩ := mNames_of G h3
      obtain ⟨t1, t2⟩ := tgt_of G h2
      refine ⟨pgs_cons (pg_name (nd_of G) (slot_of G (of_decide_eq_true h1)) t1 t2) q1 rfl, ?_, ?_⟩
      · show (_ :: assignEach s X.env).length = _
        rw [List.length_cons, q2]; rfl
      · show List.findIdx? _ (_ :: assignEach s X.env) = none
        rw [List.findIdx?_cons, q3]; rfl
    · cases h
theorem mTg_of (G : CtxE C xt Γ T X W') {g : Tg} {pe : Expr} (h : mTg Γ g pe = true) : PG X pe (gTg X.K g) := by
  unfold mTg at h
  split at h
  · split at h
    · obtain ⟨h1, h2⟩ := dec_and h
      obtain ⟨t1, t2⟩ := tgt_of G h2
      exact pg_name (nd_of G) (slot_of G (of_decide_eq_true h1)) t1 t2
    · cases h
  · split at h
    · obtain ⟨q1, q2, q3⟩ := mNames_of G h
      exact pg_tup G.calm q1 q2 q3
    · cases h
theorem own_snd (N : List Str) (is : List Nat) : (ownOf N is).map (·.2) = is := by
  induction is with
  | nil => rfl
  | cons a r ih =>
    show a :: (ownOf N r).map (·.2) = a :: r
    rw [ih]
theorem bi_boot (b : Bi) : bootBuiltins (biN b) = some (biV b) := by cases b <;> decide +kernel
/-- a value's three roads -/
def Tri (X : Cx) (pe : Expr) (t : TE) : Prop := PE X pe t ∧ (nif pe = true → PT X pe (tTest t)) ∧ ∀ op vs pos, pe = .BoolOp op vs pos → PW X pe (tTest t)
theorem tri_of {pe : Expr} {t : TE} (h : PE X pe t) (hn : nt pe = true) : Tri X pe t := ⟨h, fun _ => pt_val h (nt_is hn), fun op vs pos e => by subst e; cases hn⟩
theorem Tri.imp {pe : Expr} {t t' : TE} (h : Tri X pe t) (i : ∀ σ H Q, t' σ H Q → t σ H Q) : Tri X pe t' :=
  ⟨h.1.imp i, fun z => (h.2.1 z).imp fun σ H Q q => i σ H _ q, fun op vs pos e => Cn.PW.imp (h.2.2 op vs pos e) fun σ H Q q => i σ H _ q⟩
end
set_option maxHeartbeats 8000000 in
mutual
theorem sE {C : Calls} {xt : Xt} : ∀ (e : E) {Γ : Gam} {T : Tx} {X : Cx} {W' : WX} (pe : Expr), CtxE C xt Γ T X W' → mE Γ e pe = true → Tri X pe (tE T xt W' fun ws m => evE C ws m e)
  | .var i, Γ, T, X, W', pe, G, h => by
    unfold mE at h
    split at h
    · obtain ⟨h, h3⟩ := dec_and h
      obtain ⟨h1, h2⟩ := dec_and h
      obtain ⟨d1, d2, _⟩ := okN_d h3
      exact tri_of ((pe_var (slot_of G (of_decide_eq_true h1)) (vis_of G h2) d1 d2).imp fun σ H Q q => tE_var q) rfl
    · cases h
  | .int i, Γ, T, X, W', pe, G, h => by
    unfold mE at h
    split at h
    · cases of_decide_eq_true h
      exact tri_of (pe_int.imp fun σ H Q q => tE_now (v := .int i) (w := .d (.int i)) q (fun _ _ => by simp only [evE]) fun _ _ => RD.int _) rfl
    · cases of_decide_eq_true h
      rename_i j _ _ _
      refine tri_of ((pe_un un_neg (pe_int (i := j))).imp fun σ H Q q => ?_) rfl
      exact ⟨j, rfl, tE_now (v := .int (-j)) (w := .d (.int (-j))) q (fun _ _ => by simp only [evE]) fun _ _ => RD.int _⟩
    · cases h
  | .str cs, Γ, T, X, W', pe, G, h => by
    unfold mE at h
    split at h
    · cases of_decide_eq_true h
      exact tri_of (pe_str.imp fun σ H Q q => tE_now (v := .str (strV cs)) (w := .d (.str cs)) q (fun _ _ => by simp only [evE]) fun _ _ => RD.str _) rfl
    · cases h
  | .bl b, Γ, T, X, W', pe, G, h => by
    unfold mE at h
    split at h
    · cases eq_of_beq h
      exact tri_of (pe_bl.imp fun σ H Q q => tE_now (v := .bl b) (w := .d (.bl b)) q (fun _ _ => by simp only [evE]) fun _ _ => RD.bl _) rfl
    · cases h
  | .non, Γ, T, X, W', pe, G, h => by
    unfold mE at h
    split at h
    · exact tri_of (pe_non.imp fun σ H Q q => tE_now (v := .non) (w := .d .non) q (fun _ _ => by simp only [evE]) fun _ _ => RD.non) rfl
    · cases h
  | .gi x i, Γ, T, X, W', pe, G, h => by
    unfold mE at h
    split at h
    · obtain ⟨h, h3⟩ := dec_and h
      obtain ⟨h1, h2⟩ := dec_and h
      obtain ⟨u, hu, ru⟩ := G.nums _ i (of_decide_eq_true h1)
      obtain ⟨d1, _, _⟩ := okN_d h3
      exact tri_of ((pe_glob (gl_of G h2) hu ru d1).imp fun σ H Q q => tE_now (v := .int i) (w := .d (.int i)) q (fun _ _ => by simp only [evE]) fun _ _ => RD.int _) rfl
    · cases h
  | .gt x t, Γ, T, X, W', pe, G, h => by
    unfold mE at h
    split at h
    · obtain ⟨h, h3⟩ := dec_and h
      obtain ⟨h1, h2⟩ := dec_and h
      obtain ⟨p, hp, hq⟩ := List.any_eq_true.mp h1
      obtain ⟨q1, q2⟩ := dec_and hq
      have e1 := eq_of_beq q1
      have e2 := same_eq _ _ q2
      obtain ⟨v, u, hu, ru, rk⟩ := G.tups p hp
      rw [e1] at hu
      rw [e2] at rk
      obtain ⟨d1, _, _⟩ := okN_d h3
      exact tri_of ((pe_glob (gl_of G h2) hu ru d1).imp fun σ H Q q => tE_now (v := v) (w := .kt t) q (fun _ _ => by simp only [evE]) fun _ _ => rk) rfl
    · cases h
  | .fz e, Γ, T, X, W', pe, G, h => by
    unfold mE at h
    refine (sE e pe G h).imp fun σ H Q q => ?_
    simp only [evE] at q
    exact tE_fz q
  | .bin o a b, Γ, T, X, W', pe, G, h => by
    unfold mE at h
    split at h
    · obtain ⟨h, h3⟩ := dec_and h
      obtain ⟨h1, h2⟩ := dec_and h
      cases of_decide_eq_true h1
      refine tri_of ?_ rfl
      have ho := op_bin (X := X) (xt := xt) G.hK o
      cases o <;> exact (pe_op ho (sE a _ G h2).1 (sE b _ G h3).1).imp fun σ H Q q => s_bin q
    · cases h
  | .mulM a b, Γ, T, X, W', pe, G, h => by
    unfold mE at h
    split at h
    · obtain ⟨h, h3⟩ := dec_and h
      obtain ⟨h1, h2⟩ := dec_and h
      cases of_decide_eq_true h1
      exact tri_of ((pe_op op_mulM (sE a _ G h2).1 (sE b _ G h3).1).imp fun σ H Q q => s_mulM q) rfl
    · cases h
  | .cmp o a b, Γ, T, X, W', pe, G, h => by
    unfold mE at h
    split at h
    · obtain ⟨h, h4⟩ := dec_and h
      obtain ⟨h, h3⟩ := dec_and h
      obtain ⟨h1, h2⟩ := dec_and h
      cases of_decide_eq_true h1
      have ho := op_cmp (X := X) (xt := xt) G.hK G.un o
      have hb := nset_bh h2 (coP o)
      exact ⟨(pe_cmpR ho (sE a _ G h3).1 (sE b _ G h4).1 hb).imp fun σ H Q q => s_cmp q, fun _ => (pt_cmpR ho (sE a _ G h3).1 (sE b _ G h4).1 hb).imp fun σ H Q q => s_cmp q, fun _ _ _ e => nomatch e⟩
    · cases h
  | .ch o p a b c, Γ, T, X, W', pe, G, h => by
    unfold mE at h
    split at h
    · obtain ⟨h, h6⟩ := dec_and h
      obtain ⟨h, h5⟩ := dec_and h
      obtain ⟨h, h4⟩ := dec_and h
      obtain ⟨h, h3⟩ := dec_and h
      obtain ⟨h1, h2⟩ := dec_and h
      cases of_decide_eq_true h1
      cases of_decide_eq_true h2
      have ho := op_cmp (X := X) (xt := xt) G.hK G.un o
      have hp := op_cmp (X := X) (xt := xt) G.hK G.un p
      exact ⟨(pe_chain ho hp (sE a _ G h4).1 (sE b _ G h5).1 (sE c _ G h6).1 (lastM h3)).imp fun σ H Q q => s_ch q, fun _ => (pt_chain ho hp (sE a _ G h4).1 (sE b _ G h5).1 (sE c _ G h6).1 (lastM h3)).imp fun σ H Q q => s_ch q, fun _ _ _ e => nomatch e⟩
    · cases h
  | .and2 a b, Γ, T, X, W', pe, G, h => by
    unfold mE at h
    split at h
    · obtain ⟨h, h4⟩ := dec_and h
      obtain ⟨h, h3⟩ := dec_and h
      obtain ⟨h1, h2⟩ := dec_and h
      have sa := sE a _ G h3
      have sb := sE b _ G h4
      have w := fun pos => Cn.PW.imp (pw_and (pos := pos) (sa.2.1 h1) (pw_and1 (sb.2.1 h2))) fun σ H Q (q : tTest (tE T xt W' fun ws m => evE C ws m (.and2 a b)) σ H Q) => w_and q
      exact ⟨(pe_and sa.1 (pe_one sb.1)).imp fun σ H Q q => s_and q, fun _ => (w _).pt, fun _ _ _ e => by cases e; exact w _⟩
    · obtain ⟨h, h3⟩ := dec_and h
      obtain ⟨h1, h2⟩ := dec_and h
      have sa := sE a _ G h2
      have sb := sE b _ G h3
      have w := Cn.PW.imp (pw_and (sa.2.1 h1) (sb.2.2 _ _ _ rfl)) fun σ H Q (q : tTest (tE T xt W' fun ws m => evE C ws m (.and2 a b)) σ H Q) => w_and q
      exact ⟨(pe_and sa.1 sb.1).imp fun σ H Q q => s_and q, fun _ => w.pt, fun _ _ _ e => by cases e; exact w⟩
    · cases h
  | .or2 a b, Γ, T, X, W', pe, G, h => by
    unfold mE at h
    split at h
    · obtain ⟨h, h4⟩ := dec_and h
      obtain ⟨h, h3⟩ := dec_and h
      obtain ⟨h1, h2⟩ := dec_and h
      have sa := sE a _ G h3
      have sb := sE b _ G h4
      have w := fun pos => Cn.PW.imp (pw_or (pos := pos) (sa.2.1 h1) (pw_or1 (sb.2.1 h2))) fun σ H Q (q : tTest (tE T xt W' fun ws m => evE C ws m (.or2 a b)) σ H Q) => w_or q
      exact ⟨(pe_or sa.1 (pe_one sb.1)).imp fun σ H Q q => s_or q, fun _ => (w _).pt, fun _ _ _ e => by cases e; exact w _⟩
    · obtain ⟨h, h3⟩ := dec_and h
      obtain ⟨h1, h2⟩ := dec_and h
      have sa := sE a _ G h2
      have sb := sE b _ G h3
      have w := Cn.PW.imp (pw_or (sa.2.1 h1) (sb.2.2 _ _ _ rfl)) fun σ H Q (q : tTest (tE T xt W' fun ws m => evE C ws m (.or2 a b)) σ H Q) => w_or q
      exact ⟨(pe_or sa.1 sb.1).imp fun σ H Q q => s_or q, fun _ => w.pt, fun _ _ _ e => by cases e; exact w⟩
    · cases h
  | .not a, Γ, T, X, W', pe, G, h => by
    unfold mE at h
    split at h
    · obtain ⟨h1, h2⟩ := dec_and h
      have sa := sE a _ G h2
      exact ⟨(pe_not sa.1).imp fun σ H Q q => s_not q, fun _ => (pt_not (sa.2.1 h1)).imp fun σ H Q q => w_not q, fun _ _ _ e => nomatch e⟩
    · cases h
  | .ife c a b, Γ, T, X, W', pe, G, h => by
    unfold mE at h
    split at h
    · obtain ⟨h, h4⟩ := dec_and h
      obtain ⟨h, h3⟩ := dec_and h
      obtain ⟨h1, h2⟩ := dec_and h
      exact ⟨(pe_ifExp ((sE c _ G h2).2.1 h1) (sE a _ G h3).1 (sE b _ G h4).1).imp fun σ H Q q => s_ife q, (fun z => Bool.noConfusion z), fun _ _ _ e => nomatch e⟩
    · cases h
  | .tup es, Γ, T, X, W', pe, G, h => by
    unfold mE at h
    split at h
    · exact tri_of ((pe_tup (sEs es _ G h)).imp fun σ H Q q => s_tup q) rfl
    · cases h
  | .lst es, Γ, T, X, W', pe, G, h => by
    unfold mE at h
    split at h
    · exact tri_of ((pe_lst (sEs es _ G h)).imp fun σ H Q q => s_lst q) rfl
    · cases h
  | .lstM es, Γ, T, X, W', pe, G, h => by
    unfold mE at h
    split at h
    · exact tri_of ((pe_lst (sEs es _ G h)).imp fun σ H Q q => s_lstM q) rfl
    · cases h
  | .ix a b, Γ, T, X, W', pe, G, h => by
    unfold mE at h
    split at h
    · obtain ⟨h, h3⟩ := dec_and h
      obtain ⟨h1, h2⟩ := dec_and h
      exact tri_of ((pe_ix (ix_R G.hK G.un) (sE a _ G h2).1 (sE b _ G h3).1 (nsl_ix h1)).imp fun σ H Q q => s_ix q) rfl
    · cases h
  | .sl a b c, Γ, T, X, W', pe, G, h => by
    unfold mE at h
    split at h
    · obtain ⟨h, h3⟩ := dec_and h
      obtain ⟨h1, h2⟩ := dec_and h
      refine tri_of ((pe_slice (sl_R (T := T) (xt := xt) G.hK) (sE a _ G h1).1 (po_some (sE b _ G h2).1) (po_some (sE c _ G h3).1)).imp fun σ H Q q => ?_) rfl
      simp only [evE] at q
      refine tE_bind (f := fun ws x m => (evE C ws m b).bind fun y m => (match y with | .d (.int i) => (evE C ws m c).bind fun z m => (match z with | .d (.int j) => slR m x (some i) (some j) | _ => .stuck) | _ => .stuck)) q fun F ρ m ws v w H1 R S hv A => ?_
      refine ⟨F, ρ, m, ws, R, S, A.bind.imp (fun F1 ρ1 H2 m1 u r1 l1 g1 k y hy => ?_) fun _ _ _ z => z⟩
      split at k
      · rename_i i
        refine ⟨i, RD.intV hy, F1, ρ1, m1, ws, r1, S.mono l1 g1, k.bind.imp (fun F2 ρ2 H3 m2 z r2 l2 g2 k3 y2 hy2 => ?_) fun _ _ _ z => z⟩
        split at k3
        · rename_i j
          exact ⟨j, RD.intV hy2, F2, ρ2, m2, w, r2, (hv.mono l1 g1).mono l2 g2, k3.imp (fun _ _ _ _ _ _ _ _ z => z) fun _ _ _ _ => trivial⟩
        · exact k3.elim
      · exact k.elim
    · cases h
  | .slF a b, Γ, T, X, W', pe, G, h => by
    unfold mE at h
    split at h
    · obtain ⟨h1, h2⟩ := dec_and h
      refine tri_of ((pe_slice (sl_R (T := T) (xt := xt) G.hK) (sE a _ G h1).1 (po_some (sE b _ G h2).1) po_none).imp fun σ H Q q => ?_) rfl
      simp only [evE] at q
      refine tE_bind (f := fun ws x m => (evE C ws m b).bind fun y m => (match y with | .d (.int i) => slR m x (some i) none | _ => .stuck)) q fun F ρ m ws v w H1 R S hv A => ?_
      refine ⟨F, ρ, m, ws, R, S, A.bind.imp (fun F1 ρ1 H2 m1 u r1 l1 g1 k y hy => ?_) fun _ _ _ z => z⟩
      split at k
      · rename_i i
        exact ⟨i, RD.intV hy, F1, ρ1, m1, w, r1, hv.mono l1 g1, k.imp (fun _ _ _ _ _ _ _ _ z => z) fun _ _ _ _ => trivial⟩
      · exact k.elim
    · cases h
  | .slT a c, Γ, T, X, W', pe, G, h => by
    unfold mE at h
    split at h
    · obtain ⟨h1, h2⟩ := dec_and h
      refine tri_of ((pe_slice (sl_R (T := T) (xt := xt) G.hK) (sE a _ G h1).1 po_none (po_some (sE c _ G h2).1)).imp fun σ H Q q => ?_) rfl
      simp only [evE] at q
      refine tE_bind (f := fun ws x m => (evE C ws m c).bind fun y m => (match y with | .d (.int i) => slR m x none (some i) | _ => .stuck)) q fun F ρ m ws v w H1 R S hv A => ?_
      refine ⟨F, ρ, m, ws, R, S, A.bind.imp (fun F1 ρ1 H2 m1 u r1 l1 g1 k y hy => ?_) fun _ _ _ z => z⟩
      split at k
      · rename_i i
        exact ⟨i, RD.intV hy, F1, ρ1, m1, w, r1, hv.mono l1 g1, k.imp (fun _ _ _ _ _ _ _ _ z => z) fun _ _ _ _ => trivial⟩
      · exact k.elim
    · cases h
  | .call f es, Γ, T, X, W', pe, G, h => by
    unfold mE at h
    split at h
    · obtain ⟨h, h4⟩ := dec_and h
      obtain ⟨h, h5⟩ := dec_and h
      obtain ⟨h, h3⟩ := dec_and h
      obtain ⟨h1, h2⟩ := dec_and h
      have mode : Γ.tb.md.getD f false = false → L2.Takes X W' := fun z => G.tk2 (by
        rw [z, Bool.or_false] at h5
        simpa using h5)
      obtain ⟨a, fd, ps, k, g1, g2, g3, g4, g5⟩ := G.cal f _ (of_decide_eq_true h1)
      obtain ⟨d1, _, _⟩ := okN_d h3
      have hs := mEs_star (pos := ⟨0, 0, 0, 0⟩) (env := X.env) h4
      refine tri_of ((pe_callS g5 g4 (gl_of G h2) g1 g2 g3 (fun σ => passM mode G.tkN σ) (sEs es _ G h4) d1 (star_cons ?_) ?_).imp fun σ H Q q => ?_) rfl
      · cases es with
        | nil => unfold mEs at h4; cases h4
        | cons e es => unfold mEs at h4; exact (dec_and (dec_and h4).1).1
      · cases es with
        | nil => unfold mEs at h4; cases h4
        | cons e es => unfold mEs at h4; exact mEs_star (dec_and h4).2
      · obtain ⟨F, ρ, m, ws, R, S, A⟩ := s_call q
        exact ⟨F, ρ, m, ws, R, S, A.imp (fun F1 ρ1 H1 m1 us r1 l1 g1 k vs hvs => ⟨T.side, k vs hvs⟩) fun _ _ _ z => z⟩
    · cases h
  | .b1 b a, Γ, T, X, W', pe, G, h => by
    unfold mE at h
    split at h
    · obtain ⟨h, h3⟩ := dec_and h
      obtain ⟨h1, h2⟩ := dec_and h
      obtain ⟨rfl, b2, b3, b4⟩ := bi_of G h1
      obtain ⟨d1, _, d3⟩ := okN_d b4
      have hc := call_b1 (T := T) (xt := xt) G.hK G.calm b
      have ha := pa_cons (sE a _ G h3).1 pa_nil (star_cons h2)
      refine tri_of ?_ rfl
      cases b <;> first
        | exact (pe_callB hc b2 b3 (bi_boot _) ha d3 d1 (star_cons h2) rfl).imp fun σ H Q q => s_b1 q
        | exact (pe_callTy hc b2 b3 (bi_boot _) ha d3 d1 (star_cons h2) rfl).imp fun σ H Q q => s_b1 q
    · cases h
  | .dm a b, Γ, T, X, W', pe, G, h => by
    unfold mE at h
    split at h
    · obtain ⟨h, h5⟩ := dec_and h
      obtain ⟨h, h4⟩ := dec_and h
      obtain ⟨h, h3⟩ := dec_and h
      obtain ⟨h1, h2⟩ := dec_and h
      obtain ⟨rfl, b2, b3, b4⟩ := bi_of G h1
      obtain ⟨d1, _, d3⟩ := okN_d b4
      have ha := pa_cons (sE a _ G h4).1 (pa_cons (sE b _ G h5).1 pa_nil (star_cons h3)) (star_cons h2)
      refine tri_of ((pe_callB (call_dm (T := T) (xt := xt)) b2 b3 (by decide +kernel) ha d3 d1 (star_cons h2) ?_).imp fun σ H Q q => s_dm q) rfl
      rw [star_cons h3]; rfl
    · cases h
  | .app a b, Γ, T, X, W', pe, G, h => by
    unfold mE at h
    split at h
    · obtain ⟨h, h6⟩ := dec_and h
      obtain ⟨h, h5⟩ := dec_and h
      obtain ⟨h, h4⟩ := dec_and h
      obtain ⟨h, h3⟩ := dec_and h
      obtain ⟨h1, h2⟩ := dec_and h
      cases of_decide_eq_true h1
      refine tri_of ((pe_bm PySem.F.plainAttrs_list PySem.F.slot_list_append PySem.F.type_list_append (mt_app (T := T) (xt := xt)) (sE a _ G h5).1 (pa_cons (sE b _ G h6).1 pa_nil (star_cons h4)) (nsup_at h2) ?_ h3 (star_cons h4) rfl).imp fun σ H Q q => s_app q) rfl
      rw [star_cons h4]; rfl
    · cases h
  | .ext a b, Γ, T, X, W', pe, G, h => by
    unfold mE at h
    split at h
    · obtain ⟨h, h6⟩ := dec_and h
      obtain ⟨h, h5⟩ := dec_and h
      obtain ⟨h, h4⟩ := dec_and h
      obtain ⟨h, h3⟩ := dec_and h
      obtain ⟨h1, h2⟩ := dec_and h
      cases of_decide_eq_true h1
      refine tri_of ((pe_bm PySem.F.plainAttrs_list PySem.F.slot_list_extend PySem.F.type_list_extend (mt_ext (T := T) (xt := xt)) (sE a _ G h5).1 (pa_cons (sE b _ G h6).1 pa_nil (star_cons h4)) (nsup_at h2) ?_ h3 (star_cons h4) rfl).imp fun σ H Q q => s_ext q) rfl
      rw [star_cons h4]; rfl
    · cases h
  | .pop a, Γ, T, X, W', pe, G, h => by
    unfold mE at h
    split at h
    · obtain ⟨h, h4⟩ := dec_and h
      obtain ⟨h, h3⟩ := dec_and h
      obtain ⟨h1, h2⟩ := dec_and h
      cases of_decide_eq_true h1
      exact tri_of ((pe_bm0 PySem.F.plainAttrs_list PySem.F.slot_list_pop PySem.F.type_list_pop (mt_popR (T := T) (xt := xt)) (sE a _ G h4).1 (nsup_at h2) h3).imp fun σ H Q q => s_pop q) rfl
    · cases h
  | .lc g it c el, Γ, T, X, W', pe, G, h => by
    unfold mE at h
    split at h
    · rename_i x tg i ifs scope p
      obtain ⟨h, h6⟩ := dec_and h
      obtain ⟨h, h5⟩ := dec_and h
      obtain ⟨h, h4⟩ := dec_and h
      obtain ⟨h, h3⟩ := dec_and h
      obtain ⟨h1, h2⟩ := dec_and h
      have hi := pi_seq (tg := tg) G.hK (sE it i G h2).1
      have ok : BlkOk X.N X.env.scope scope (ownOf Γ.N (tgs g)) := by
        rw [G.hN, G.sc]
        exact blkOk_by h3
      have he := fun (s : Shared) (H : Hp) (Ca : Addr) (cl : List (Str × Addr)) (fp : List Addr) => pe_s (T := T) fun sd => (sE el x ((G.blk s H scope Ca cl fp).wi sd) h5).1
      have hg : ∀ (s : Shared) (H : Hp) (Ca : Addr) (cl : List (Str × Addr)) (fp : List Addr), PG (X.blk s H scope (compEnvC scope cl Ca X.env) fp) tg (gTg X.K g) := fun s H Ca cl fp => mTg_of (G.blk s H scope Ca cl fp) h4
      split at h6
      · refine tri_of ((pe_lc G.calm (nd_of G) hi ok hg (fun s H Ca cl fp => pts_nil) he (nset_fold h1 _)).imp fun σ H Q q => ?_) rfl
        simp only [evE] at q
        rw [own_snd]
        have hc := isBT_eq h6
        subst hc
        exact s_lc (c := fun ws m => evE C ws m (.bl true)) G.hK takesB_yes (by simp only [evE]; exact q)
      · rename_i q'
        obtain ⟨k1, k2⟩ := dec_and h6
        have ht := fun (s : Shared) (H : Hp) (Ca : Addr) (cl : List (Str × Addr)) (fp : List Addr) => pts_one (pt_s (T := T) (xt := xt) (W' := WF) fun sd => (sE c q' ((G.blk s H scope Ca cl fp).wi sd) k2).2.1 k1)
        refine tri_of ((pe_lc G.calm (nd_of G) hi ok hg ht he (nset_fold h1 _)).imp fun σ H Q q => ?_) rfl
        simp only [evE] at q
        rw [own_snd]
        exact s_lc G.hK takesB_one q
      · cases h6
    · cases h
  | .dicM t, Γ, T, X, W', pe, G, h => by unfold mE at h; cases h
  | .lstU es, Γ, T, X, W', pe, G, h => by unfold mE at h; cases h
  | .ch3 o p q a b c d, Γ, T, X, W', pe, G, h => by unfold mE at h; cases h
  | .at c f a, Γ, T, X, W', pe, G, h => by unfold mE at h; cases h
  | .meth c f o es, Γ, T, X, W', pe, G, h => by unfold mE at h; cases h
  | .new c f es, Γ, T, X, W', pe, G, h => by unfold mE at h; cases h
  | .isi t a, Γ, T, X, W', pe, G, h => by unfold mE at h; cases h
  | .list a, Γ, T, X, W', pe, G, h => by unfold mE at h; cases h
  | .listM a, Γ, T, X, W', pe, G, h => by unfold mE at h; cases h
  | .dict t a, Γ, T, X, W', pe, G, h => by unfold mE at h; cases h
  | .rngL a b, Γ, T, X, W', pe, G, h => by unfold mE at h; cases h
  | .get a k x, Γ, T, X, W', pe, G, h => by unfold mE at h; cases h
  | .gin x ps a, Γ, T, X, W', pe, G, h => by
    unfold mE at h
    split at h
    · obtain ⟨h, h4⟩ := dec_and h
      obtain ⟨h, h3⟩ := dec_and h
      obtain ⟨h1, h2⟩ := dec_and h
      obtain ⟨ad, g1, g2⟩ := G.dics _ _ (of_decide_eq_true h1)
      obtain ⟨d1, _, _⟩ := okN_d h3
      have ho := op_gin (T := T) (xt := xt) g2
      have hg := fun pos => pe_glob (X := X) (pos := pos) (v := .ref ad) (gl_of G h2) g1 rfl d1
      exact ⟨(pe_cmpR ho (sE a _ G h4).1 (hg _) rfl).imp fun σ H Q q => s_gin q, fun _ => (pt_cmpR ho (sE a _ G h4).1 (hg _) rfl).imp fun σ H Q q => s_gin q, fun _ _ _ e => nomatch e⟩
    · cases h
  | .gget x ps a, Γ, T, X, W', pe, G, h => by
    unfold mE at h
    split at h
    · obtain ⟨h, h5⟩ := dec_and h
      obtain ⟨h, h4⟩ := dec_and h
      obtain ⟨h, h3⟩ := dec_and h
      obtain ⟨h1, h2⟩ := dec_and h
      obtain ⟨ad, g1, g2⟩ := G.dics _ _ (of_decide_eq_true h1)
      obtain ⟨d1, _, _⟩ := okN_d h3
      exact tri_of ((pe_ix (ix_gget (T := T) (xt := xt) g2) (pe_glob (v := .ref ad) (gl_of G h2) g1 rfl d1) (sE a _ G h5).1 (nsl_ix h4)).imp fun σ H Q q => s_gget q) rfl
    · cases h
  | .cv i es, Γ, T, X, W', pe, G, h => by unfold mE at h; cases h
  | .lam l is, Γ, T, X, W', pe, G, h => by unfold mE at h; cases h
theorem sEs {C : Calls} {xt : Xt} : ∀ (es : Es) {Γ : Gam} {T : Tx} {X : Cx} {W' : WX} (xs : List Expr), CtxE C xt Γ T X W' → mEs Γ es xs = true → PA X xs (tA T xt W' fun ws m => evEs C ws m es)
  | .nil, Γ, T, X, W', xs, G, h => by
    unfold mEs at h
    cases xs with
    | nil => exact pa_nil.imp fun σ H Q q => a_nil q
    | cons _ _ => cases h
  | .cons e es, Γ, T, X, W', xs, G, h => by
    unfold mEs at h
    cases xs with
    | nil => cases h
    | cons x r =>
      obtain ⟨h, h3⟩ := dec_and h
      obtain ⟨h1, h2⟩ := dec_and h
      exact (pa_cons (sE e x G h2).1 (sEs es r G h3) (star_cons h1)).imp fun σ H Q q => a_cons q
end
end Cn

/-! # the text against the language: statements, defs -/
namespace Cn
open PySem PySem.Spec PyProof.Rows L2
def nc : Expr → Bool
  | .ListComp _ _ _ _ => false
  | .SetComp _ _ _ _ => false
  | .DictComp _ _ _ _ _ => false
  | _ => true
def ntup : Expr → Bool
  | .Tuple _ _ _ => false
  | .List _ _ => false
  | _ => true
/-- the fields that a handler hands back -/
def mXf (nm : Str) : List Str → List Expr → Bool
  | [], es => es.isEmpty
  | f :: r, es => (match es with
    | .Attribute (.Name y _) g _ :: s => decide (y = nm) && decide (g = f) && mXf nm r s
    | _ => false)
def mIt (Γ : Gam) : It → Expr → Bool
  | .seq e => fun pe => nset pe && mE Γ e pe
  | .rng a b => fun pe => match pe with | .Call (.Name y _) [x, z] [] _ => Γ.bi y "range" && nst x && nst z && mE Γ a x && mE Γ b z | _ => false
  | _ => fun _ => false
def Gam.inT (Γ : Gam) : Gam := { Γ with t := false }
def Gam.inN (Γ : Gam) : Gam := { Γ with t := false, n := true }
def isFz : S → Bool
  | .fzs _ => true
  | _ => false
def Es.len : Es → Nat
  | .nil => 0
  | .cons _ es => es.len + 1
mutual
def mS (Γ : Gam) : S → Stmt → Bool
  | .asg i e => fun st => match st with | .Assign [.Name y _] x _ => decide (Γ.N[i]? = some y) && Γ.tgt y && nc x && mE Γ e x | _ => false
  | .asgT is e => fun st => match st with | .Assign [.Tuple es _ _] x _ => mNames Γ is es && nc x && ntup x && mE Γ e x | _ => false
  | .ex e => fun st => match st with | .Expr x _ => nc x && mE Γ e x | _ => false
  | .ret e => fun st => match st with | .Return (some x) _ => mE Γ e x | _ => false
  | .if_ c a b => fun st => match st with | .If x xs ys _ => nif x && mE Γ c x && mSs Γ a xs && mSs Γ b ys | _ => false
  | .wh c b => fun st => match st with | .While x xs [] _ => nif x && mE Γ c x && mSs Γ b xs | _ => false
  | .for_ g it b => fun st => match st with | .For tg x xs [] _ => mTg Γ g tg && nset x && mIt Γ it x && mSs Γ b xs | _ => false
  | .rais c _ es => fun st => match st with
    | .Raise (some (.Call (.Name y _) (x :: xs) [] _)) none _ => decide (Γ.tb.xn[c]? = some y) && Γ.gl y && okN y && decide (es.len = (Γ.tb.xf.getD c []).length) && mEs Γ es (x :: xs)
    | .Raise (some (.Call (.Name y _) [] [] _)) none _ => decide (Γ.tb.xn[c]? = some y) && Γ.gl y && okN y && decide ((Γ.tb.xf.getD c []).length = 0) && decide (es.len = 0)
    | _ => false
  | .tryF b c i fs => fun st => match st with
    | .Try body [.ExceptHandler (some (.Name y _)) (some nm) [.Return (some (.List es _)) _] _] [] [] _ =>
        decide (Γ.tb.xn[c]? = some y) && Γ.gl y && okN y && okN nm && decide (Γ.N[i]? = some nm) && decide (Γ.sc.names.lookup nm = some .local) && decide (fs = List.range (Γ.tb.xf.getD c []).length) && mXf nm (Γ.tb.xf.getD c []) es && mSs Γ.inT b body
    | _ => false
  | .tryR b cs x _ k => fun st => match st with
    | .Try body [.ExceptHandler (some (.Name y _)) none [.Raise (some (.Call (.Name z _) [.Name v _] [] _)) (some (.Constant .none _ _)) _] _] [] [] _ =>
        (match cs with
          | [c] => decide (Γ.tb.xn[c]? = some y) && Γ.gl y && okN y && decide (Γ.tb.xn[x]? = some z) && Γ.gl z && okN z && decide ((Γ.tb.xf.getD x []).length = 1) && decide (Γ.tb.nums.lookup v = some k) && Γ.gl v && okN v && Γ.t && !Γ.n && mSs Γ.inN b body
          | _ => false)
    | _ => false
  | _ => fun _ => false
def mSs (Γ : Gam) : Ss → List Stmt → Bool
  | .nil => fun xs => xs.isEmpty
  | .cons s r => fun xs => if isFz s then mSs Γ r xs else (match xs with | x :: t => mS Γ s x && mSs Γ r t | _ => false)
end
theorem isFz_eq {s : S} (h : isFz s = true) : ∃ i, s = .fzs i := by
  unfold isFz at h
  split at h
  · exact ⟨_, rfl⟩
  · cases h
/-- what __init__ of such an exception leaves -/
def spX (C : Addr) (fns : List Str) : Sp := fun vs H Q _ => ∃ (a : Addr) (ys : List V), vs = .ref a :: ys ∧ ys.length = fns.length ∧ H a = some (exo a C none) ∧
  ∀ d, H d = none → d ≠ a → Q .non (upd (upd H d (exd d (fns.zip ys).reverse)) a (exo a C (some d)))
structure XcOk (xt : Xt) (Γ : Gam) (X : Cx) (c : Nat) (y : Str) : Prop where
  lt : c < xt.num
  gC : X.mg y = some (.ref (xt.xad c))
  ox : OexC X.K (xt.xad c)
  xf : XfC X.K (xt.xad c)
  nd : (xt.xfn c).Nodup
  no : ∀ f ∈ xt.xfn c, PySem.W.findIn X.K (.ref (xt.xad c)) f = some none
  fn : xt.xfn c = Γ.tb.xf.getD c []
  short : (xt.xfn c).length ≤ 10
  mkr : ∃ fI fd ps k, PySem.W.findIn X.K (.ref (xt.xad c)) "__init__" = some (some (.ref fI)) ∧ PySem.W.typeIn X.K (.ref fI) = some (.type "function") ∧ Binds X.K fd ps [] ∧ Room (k + 1) X.A ∧
    ((xt.xfn c ≠ [] ∧ FnOk X.prog X.w X.K X.mg X.base (L2.CX X.prog X.w) k fI fd ps (spX (xt.xad c) (xt.xfn c)) ∧ L2H.FnH X.prog X.w X.K X.mg X.base (L2.CX X.prog X.w) k fI fd ps (spX (xt.xad c) (xt.xfn c))) ∨
      (xt.xfn c = [] ∧ FnOk X.prog X.w X.K X.mg X.base (L2.CX X.prog X.w) k fI fd ps (spB (xt.xad c))))
structure CtxS (C : Calls) (xt : Xt) (Γ : Gam) (T : Tx) (X : Cx) (W' : WX) : Prop where
  e : CtxE C xt Γ T X W'
  po : PassesOwn (model X.prog X.w) X.A X.env X.xe
  stk : X.stack = X.env :: X.outer
  frm : X.env.frame = some X.env.locals
  pa : Γ.t = true → ∀ hd : Option Value, PassesOwnAt (model X.prog X.w) (X.A.mark hd) X.A X.env X.xe
  xc : ∀ c y, Γ.tb.xn[c]? = some y → XcOk xt Γ X c y
  xe : ∀ c c', c < xt.num → c' < xt.num → PySem.W.exmOne X.K (.ref (xt.xad c)) (.ref (xt.xad c')) = some (decide (c = c'))
section
variable {C : Calls} {xt : Xt} {Γ : Gam} {T : Tx} {X : Cx} {W' : WX}
theorem CtxS.tr (G : CtxS C xt Γ T X W') {W2 : WX} {pn : List (Addr × Obj)} {xe : Value → Shared → Prop} (tkN : L2N.Takes (X.tr pn xe) W2) (tk2 : Γ.n = false → L2.Takes (X.tr pn xe) W2) (po : PassesOwn (model X.prog X.w) X.A X.env xe) : CtxS C xt Γ.inT T (X.tr pn xe) W2 :=
  ⟨⟨G.e.hK, G.e.hN, G.e.nd, G.e.sc, G.e.calm, G.e.un, G.e.fa, tkN, tk2, G.e.nums, G.e.tups, G.e.free, G.e.dics, G.e.cal⟩, po, G.stk, G.frm, (fun h => Bool.noConfusion h), fun c y h => ⟨(G.xc c y h).lt, (G.xc c y h).gC, (G.xc c y h).ox, (G.xc c y h).xf, (G.xc c y h).nd, (G.xc c y h).no, (G.xc c y h).fn, (G.xc c y h).short, (G.xc c y h).mkr⟩, G.xe⟩
theorem CtxS.trN (G : CtxS C xt Γ T X W') {W2 : WX} {pn : List (Addr × Obj)} {xe : Value → Shared → Prop} (tkN : L2N.Takes (X.tr pn xe) W2) (po : PassesOwn (model X.prog X.w) X.A X.env xe) : CtxS C xt Γ.inN T (X.tr pn xe) W2 :=
  ⟨⟨G.e.hK, G.e.hN, G.e.nd, G.e.sc, G.e.calm, G.e.un, G.e.fa, tkN, (fun h => Bool.noConfusion h), G.e.nums, G.e.tups, G.e.free, G.e.dics, G.e.cal⟩, po, G.stk, G.frm, (fun h => Bool.noConfusion h), fun c y h => ⟨(G.xc c y h).lt, (G.xc c y h).gC, (G.xc c y h).ox, (G.xc c y h).xf, (G.xc c y h).nd, (G.xc c y h).no, (G.xc c y h).fn, (G.xc c y h).short, (G.xc c y h).mkr⟩, G.xe⟩
theorem nc_sw {e : Expr} {t : Option Expr} {l : Nat} {env : Env} (h : nc e = true) : swapsWith e t l env = pure false := by
  cases e <;> first | rfl | cases h
theorem nt_st {e : Expr} {es : List Expr} {k : Nat} {p : Pos} {env : Env} (h : ntup e = true) : swappedStores [.Tuple es k p] e env = pure none := by
  cases e <;> first | rfl | cases h
/-! ### raise -/
theorem zip_lookup {fns : List Str} {ys : List V} {i : Nat} {n : Str} {y : V} (hl : fns.length = ys.length) (nd : fns.Nodup) (h1 : fns[i]? = some n) (h2 : ys[i]? = some y) : ((fns.zip ys).reverse).lookup n = some y := by
  have hm : (n, y) ∈ (fns.zip ys).reverse := by
    rw [List.mem_reverse]
    exact List.mem_of_getElem? (by rw [List.getElem?_zip_eq_some]; exact ⟨h1, h2⟩ : (fns.zip ys)[i]? = some (n, y))
  have nd2 : ((fns.zip ys).reverse.map (·.1)).Nodup := by
    rw [List.map_reverse, List.map_fst_zip (by omega)]
    exact (List.reverse_perm fns).nodup_iff.mpr nd
  generalize (fns.zip ys).reverse = l at hm nd2
  induction l with
  | nil => cases hm
  | cons p r ih =>
    obtain ⟨a, b⟩ := p
    have nd3 := List.nodup_cons.mp (show (a :: r.map (·.1)).Nodup from nd2)
    rcases List.mem_cons.mp hm with e | hm
    · cases e; simp [List.lookup]
    · have hne : n ≠ a := fun e => nd3.1 (by rw [← e]; exact List.mem_map_of_mem (f := (·.1)) hm)
      have : (n == a) = false := by simpa using hne
      simp only [List.lookup, this]
      exact ih hm nd3.2
theorem evEs_len : ∀ {es : Es} {ws : Sl} {m : Mu} {us : List W} {m' : Mu}, evEs C ws m es = .ok us m' → us.length = es.len
  | .nil, ws, m, us, m', h => by simp only [evEs] at h; cases h; rfl
  | .cons e es, ws, m, us, m', h => by
    simp only [evEs] at h
    cases e1 : evE C ws m e with
    | ok w m1 =>
      rw [e1] at h
      cases e2 : evEs C ws m1 es with
      | ok vs m2 =>
        simp only [Res.bind, e2] at h
        cases h
        show vs.length + 1 = es.len + 1
        rw [evEs_len e2]
      | exc x m2 => simp only [Res.bind, e2] at h; cases h
      | stuck => simp only [Res.bind, e2] at h; cases h
    | exc x m1 => rw [e1] at h; cases h
    | stuck => rw [e1] at h; cases h
theorem intF_at {F : Hp} {ρ : Ro} : ∀ {ws : List W} {vs : List V} {is : List Int}, RWs T F ρ vs ws → intF ws = some is → vs = is.map V.int
  | [], _, _, .nil, e => by cases e; rfl
  | .d (.int i) :: r, _, _, .cons h t, e => by
    unfold intF at e
    split at e
    · rename_i is' q
      cases e
      cases h
      rw [intF_at t q]; rfl
    · cases e
  | .d (.non) :: r, _, _, .cons h t, e => by cases e
  | .d (.bl _) :: r, _, _, .cons h t, e => by cases e
  | .d (.str _) :: r, _, _, .cons h t, e => by cases e
  | .d (.tup _) :: r, _, _, .cons h t, e => by cases e
  | .d (.lst _) :: r, _, _, .cons h t, e => by cases e
  | .d (.ins _ _) :: r, _, _, .cons h t, e => by cases e
  | .d (.dK _ _) :: r, _, _, .cons h t, e => by cases e
  | .d (.dT _ _) :: r, _, _, .cons h t, e => by cases e
  | .h _ :: r, _, _, .cons h t, e => by cases e
  | .hi _ _ :: r, _, _, .cons h t, e => by cases e
  | .kt _ :: r, _, _, .cons h t, e => by cases e
  | .clo _ _ :: r, _, _, .cons h t, e => by cases e
theorem intF_len : ∀ {ws : List W} {is : List Int}, intF ws = some is → is.length = ws.length
  | [], _, e => by cases e; rfl
  | .d (.int i) :: r, is, e => by
    unfold intF at e
    cases q : intF r with
    | none => rw [q] at e; cases e
    | some t =>
      rw [q] at e
      cases e
      simp [intF_len q]
  | .d (.non) :: r, _, e => by cases e
  | .d (.bl _) :: r, _, e => by cases e
  | .d (.str _) :: r, _, e => by cases e
  | .d (.tup _) :: r, _, e => by cases e
  | .d (.lst _) :: r, _, e => by cases e
  | .d (.ins _ _) :: r, _, e => by cases e
  | .d (.dK _ _) :: r, _, e => by cases e
  | .d (.dT _ _) :: r, _, e => by cases e
  | .h _ :: r, _, e => by cases e
  | .hi _ _ :: r, _, e => by cases e
  | .kt _ :: r, _, e => by cases e
  | .clo _ _ :: r, _, e => by cases e
theorem q_rais {c f : Nat} {es : Es} {D : Ends} {σ : L2.St} {H : Hp} (hlt : c < xt.num) (hnd : (xt.xfn c).Nodup) (hsh : (xt.xfn c).length ≤ 10) (hlen : es.len = (xt.xfn c).length) (h : tS T xt W' (fun ws m => evS C ws m (.rais c f es)) D σ H) :
    tMkO (xt.xad c) (spX (xt.xad c) (xt.xfn c)) [] (tA T xt W' fun ws m => evEs C ws m es) σ H (fun cls d H' => W' cls d σ H') := by
  obtain ⟨F, ρ, m, ws, R, S, A⟩ := h
  simp only [evS] at A
  have A1 := A.toS S
  have hus : ∀ us m', evEs C ws m es = .ok us m' → us.length = (xt.xfn c).length := fun us m' e => (evEs_len e).trans hlen
  refine ⟨F, ρ, m, ws, R, S, ?_⟩
  show After T xt F ρ (evEs C ws m es) _ _
  have hus' := hus
  generalize evEs C ws m es = q at A1 hus'
  cases q with
  | exc x m1 => exact A1
  | stuck => exact A1.elim
  | ok us m1 =>
    intro F1 ρ1 H1 R1 l1 g1 vs hvs
    have k : AfterS T xt W' D F1 ρ1 σ (match intF us with | some is => SR.exc ⟨c, is⟩ ws m1 | none => .stuck) := A1 F1 ρ1 H1 R1 l1 g1
    split at k
    · rename_i is e
      have ev := intF_at hvs e
      subst ev
      have hl : is.length = (xt.xfn c).length := (intF_len e).trans (hus' us m1 rfl)
      refine ⟨by simp; omega, fun a ha => ?_⟩
      rw [List.append_nil]
      refine ⟨a, is.map V.int, rfl, by simpa using hl, upd_same, fun d hd hda => ⟨rfl, d, ((xt.xfn c).zip (is.map V.int)).reverse, upd_same, ?_, ?_, ?_⟩⟩
      · rw [upd_ne hda, upd_same]
      · rw [upd_ne hda] at hd; exact hd
      · have hd' : H1 d = none := by rw [upd_ne hda] at hd; exact hd
        have e2 : upd (del (upd (upd (upd H1 a (exo a (xt.xad c) none)) d (exd d ((xt.xfn c).zip (is.map V.int)).reverse)) a (exo a (xt.xad c) (some d))) a) d (.xd ((xt.xfn c).zip (is.map V.int)).reverse) = upd H1 d (.xd ((xt.xfn c).zip (is.map V.int)).reverse) := by
          funext b
          by_cases h1 : b = d
          · subst h1; rw [upd_same, upd_same]
          · rw [upd_ne h1, upd_ne h1]
            by_cases h2 : b = a
            · subst h2; rw [del_same, ha]
            · rw [del_ne h2, upd_ne h2, upd_ne h1, upd_ne h2]
        rw [e2]
        refine k _ ρ1 _ σ _ _ (R1.grow hd') (Le.new (R1.sub.none hd')) .rfl' ((S.mono l1 g1).mono (Le.new (R1.sub.none hd')) .rfl') ⟨rfl, hlt, hl, .inr ⟨d, _, rfl, upd_same, fun i n z h1 h2 => ?_⟩⟩
        exact zip_lookup (by simpa using hl.symm) hnd h1 (by rw [List.getElem?_map, h2]; rfl)
    · exact k.elim
theorem q_rais0 {c f : Nat} {D : Ends} {σ : L2.St} {H : Hp} (hlt : c < xt.num) (hz : (xt.xfn c).length = 0) (h : tS T xt W' (fun ws m => evS C ws m (.rais c f .nil)) D σ H) : W' (.ref (xt.xad c)) none σ H := by
  obtain ⟨F, ρ, m, ws, R, S, A⟩ := h
  simp only [evS, evEs, Res.toS_ok, intF] at A
  exact A F ρ H σ _ none R Le.rfl' .rfl' S ⟨rfl, hlt, hz.symm, .inl rfl⟩
/-! ### try: b; except C as n: return [n.f, ..] -/
def tXs (a : Addr) (cls : Value) (d : Option Addr) (Ca : Addr) (i : Nat) : List Str → TA
  | [] => tNil
  | f :: r => tCons (tXf a cls d Ca f (tVar i)) (tXs a cls d Ca i r)
theorem mXf_pa (G : CtxE C xt Γ T X W') {a Ca : Addr} {oe : Obj} {cls : Value} {d : Option Addr} {pn : List (Addr × Obj)} {nm : Str} {i : Nat} (hi : Γ.N[i]? = some nm) (hv : Γ.vis nm = true) (ho : okN nm = true) (xf : XfC X.K Ca) (hz : Zc cls d oe) (hf : ∃ vs, oe.data = .fields vs) :
    ∀ {fs : List Str} {es : List Expr}, (∀ f ∈ fs, PySem.W.findIn X.K (.ref Ca) f = some none) → mXf nm fs es = true → PA (X.suite a ((a, oe) :: pn)) es (tXs a cls d Ca i fs)
  | [], es, _, h => by
    unfold mXf at h
    cases es with
    | nil => exact pa_nil
    | cons _ _ => cases h
  | f :: r, es, hno, h => by
    unfold mXf at h
    split at h
    · rename_i y p g q s
      obtain ⟨h, h3⟩ := dec_and h
      obtain ⟨h1, h2⟩ := dec_and h
      cases of_decide_eq_true h1
      cases of_decide_eq_true h2
      obtain ⟨d1, d2, _⟩ := okN_d ho
      exact pa_cons (pe_xf xf (hno _ List.mem_cons_self) hz hf (pe_var (X := X.suite a ((a, oe) :: pn)) (slot_of G hi) (vis_of G hv) d1 d2) rfl) (mXf_pa G hi hv ho xf hz hf (fun f hf => hno f (List.mem_cons_of_mem _ hf)) h3) rfl
    · cases h
theorem fieldsF_at {F : Hp} {x : Xn} {fns : List Str} {fs : List (Str × V)} {a dd : Addr} {Ca : Addr} {i : Nat} {σ : L2.St} {H : Hp} (hH : H dd = some (.xd fs)) (hs : σ[i]? = some (some (.ref a))) (hl : ∀ (j : Nat) (n : Str) (z : Int), fns[j]? = some n → x.fs[j]? = some z → fs.lookup n = some (.int z)) :
    ∀ {r : List Str} {k : Nat} {ds : List D} {Q : List V → Hp → Prop}, fns.drop k = r → fieldsF x ((List.range r.length).map (· + k)) = some ds → (∀ vs, RDs T F vs ds → Q vs H) → tXs a (.ref Ca) (some dd) Ca i r σ H Q
  | [], k, ds, Q, _, e, q => by
    have : ds = [] := by simp [fieldsF] at e; exact e
    subst this
    exact q [] .nil
  | f :: r, k, ds, Q, hd, e, q => by
    have hk : fns[k]? = some f := by
      have := congrArg (·[0]?) hd
      simpa using this
    have hd2 : fns.drop (k + 1) = r := by
      rw [← List.drop_drop, hd]; rfl
    have er : ((List.range (f :: r).length).map (· + k)) = k :: (List.range r.length).map (· + (k + 1)) := by
      rw [List.length_cons, List.range_succ_eq_map, List.map_cons, List.map_map]
      congr 1
      · simp
      · apply List.map_congr_left
        intro b _
        simp; omega
    rw [er] at e
    unfold fieldsF at e
    split at e
    · rename_i z t e1 e2
      cases e
      refine ⟨_, hs, rfl, rfl, dd, fs, .int z, rfl, hH, hl k f z hk e1, ?_⟩
      exact fieldsF_at hH hs hl hd2 e2 fun vs hv => q _ (.cons (.int z) hv)
    · cases e
theorem fieldsF_len {x : Xn} : ∀ {r : List Nat} {ds : List D}, fieldsF x r = some ds → ds.length = r.length
  | [], ds, e => by cases e; rfl
  | f :: r, ds, e => by
    unfold fieldsF at e
    split at e
    · rename_i z t e1 e2
      cases e
      simp [fieldsF_len e2]
    · cases e
theorem q_tryF {b : Ss} {c i : Nat} {D : Ends} {σ : L2.St} {H : Hp} (hc : c < xt.num) (hsh : (xt.xfn c).length ≤ 10)
    (hxe : ∀ c c', c < xt.num → c' < xt.num → PySem.W.exmOne X.K (.ref (xt.xad c)) (.ref (xt.xad c')) = some (decide (c = c')))
    (h : tS T xt W' (fun ws m => evS C ws m (.tryF b c i (List.range (xt.xfn c).length))) D σ H) :
    tS T xt (wAs X.K (.ref (xt.xad c)) i (fun a cls d => tRet (tLst (tXs a cls d (xt.xad c) i (xt.xfn c)))) W' D) (fun ws m => evSs C ws m b) D σ H := by
  obtain ⟨F, ρ, m, ws, R, S, A⟩ := h
  simp only [evS] at A
  refine ⟨F, ρ, m, ws, R, S, ?_⟩
  show AfterS _ _ _ _ _ _ _ (evSs C ws m b)
  generalize evSs C ws m b = r at A
  cases r with
  | next ws m => exact A
  | ret w ws m => exact A
  | stuck => exact A.elim
  | exc x ws2 m2 =>
    intro F1 ρ1 H1 σ1 cls dx R1 l1 g1 S1 rx
    have rx' := rx
    obtain ⟨rfl, hlt, hfl, hfd⟩ := rx
    refine ⟨_, hxe x.cls c hlt hc, fun hb a ha => ?_, fun hb => ?_⟩
    · have hcc : x.cls = c := of_decide_eq_true hb
      subst hcc
      unfold catchF at A
      dsimp only at A
      rw [if_pos rfl] at A
      split at A
      · rename_i ds eds
        split at A
        rotate_left
        · exact A.elim
        rename_i hil
        have iσ : i < σ1.length := by rw [S1.1]; exact hil
        have fin : ∀ vs, RDs T F1 vs ds → vs.length ≤ sizeLine ∧ ∀ p, H1 p = none → D.rt (.ref p) (upd H1 p (.lst vs)) := fun vs hv => by
          refine ⟨?_, fun p hp => ?_⟩
          · rw [hv.length, fieldsF_len eds, List.length_range]
            have : sizeLine = 16777216 := rfl
            omega
          · exact A _ ρ1 _ _ (R1.grow hp) (l1.trans (Le.new (R1.sub.none hp))) g1 (RD.lst (.inl upd_same) (hv.mono (Le.new (R1.sub.none hp))))
        show tLst (tXs a (.ref (xt.xad x.cls)) dx (xt.xad x.cls) i (xt.xfn x.cls)) (σ1.set i (some (.ref a))) H1 D.rt
        rcases hfd with hnil | ⟨dd, fs, rfl, hF, hl⟩
        · have : xt.xfn x.cls = [] := List.eq_nil_of_length_eq_zero (by rw [← hfl, hnil]; rfl)
          rw [this] at eds ⊢
          have : ds = [] := by simp [fieldsF] at eds; exact eds
          subst this
          exact fin [] .nil
        · refine fieldsF_at (F := F1) (R1.sub _ _ hF) (List.getElem?_set_self iσ) hl (k := 0) rfl ?_ fin
          simpa using eds
      · exact A.elim
    · have hcc : x.cls ≠ c := of_decide_eq_false hb
      unfold catchF at A
      dsimp only at A
      rw [if_neg hcc] at A
      exact A F1 ρ1 H1 σ1 _ dx R1 l1 g1 S1 rx'
/-- try: b; except C: raise X(k) from None -/
def tsR (xt : Xt) (W' : WX) (x : Nat) (k : Int) : Addr → Value → Option Addr → TS := fun _ _ _ => fun _ σ H => tMkO (xt.xad x) (spX (xt.xad x) (xt.xfn x)) [] (tCons (tC (.int k)) tNil) σ H (fun cls d H' => W' cls d σ H')
theorem q_tryR {b : Ss} {c x f : Nat} {k : Int} {D : Ends} {σ : L2.St} {H : Hp} (hc : c < xt.num) (hx : x < xt.num) (h1 : (xt.xfn x).length = 1) (hnd : (xt.xfn x).Nodup)
    (hxe : ∀ c c', c < xt.num → c' < xt.num → PySem.W.exmOne X.K (.ref (xt.xad c)) (.ref (xt.xad c')) = some (decide (c = c')))
    (h : tS T xt W' (fun ws m => evS C ws m (.tryR b [c] x f k)) D σ H) : tS T xt (wOnly X.K (.ref (xt.xad c)) (tsR xt W' x k) W' D) (fun ws m => evSs C ws m b) D σ H := by
  obtain ⟨F, ρ, m, ws, R, S, A⟩ := h
  simp only [evS] at A
  refine ⟨F, ρ, m, ws, R, S, ?_⟩
  show AfterS _ _ _ _ _ _ _ (evSs C ws m b)
  generalize evSs C ws m b = r at A
  cases r with
  | next ws m => exact A
  | ret w ws m => exact A
  | stuck => exact A.elim
  | exc e ws2 m2 =>
    intro F1 ρ1 H1 σ1 cls dx R1 l1 g1 S1 rx
    have rx' := rx
    obtain ⟨rfl, hlt, hfl, hfd⟩ := rx
    refine ⟨_, hxe e.cls c hlt hc, fun hb a ha => ?_, fun hb => ?_⟩
    · have hcc : e.cls = c := of_decide_eq_true hb
      unfold catchR at A
      dsimp only at A
      rw [if_pos (by rw [hcc]; exact List.mem_cons_self)] at A
      refine ⟨by simp, fun a2 ha2 => ?_⟩
      rw [List.append_nil]
      refine ⟨a2, [V.int k], rfl, by rw [h1]; rfl, upd_same, fun d hd hda => ⟨rfl, d, ((xt.xfn x).zip [V.int k]).reverse, upd_same, by rw [upd_ne hda, upd_same], by rw [upd_ne hda] at hd; exact hd, ?_⟩⟩
      have hd' : H1 d = none := by rw [upd_ne hda] at hd; exact hd
      have e2 : upd (del (upd (upd (upd H1 a2 (exo a2 (xt.xad x) none)) d (exd d ((xt.xfn x).zip [V.int k]).reverse)) a2 (exo a2 (xt.xad x) (some d))) a2) d (.xd ((xt.xfn x).zip [V.int k]).reverse) = upd H1 d (.xd ((xt.xfn x).zip [V.int k]).reverse) := by
        funext b
        by_cases q1 : b = d
        · subst q1; rw [upd_same, upd_same]
        · rw [upd_ne q1, upd_ne q1]
          by_cases q2 : b = a2
          · subst q2; rw [del_same, ha2]
          · rw [del_ne q2, upd_ne q2, upd_ne q1, upd_ne q2]
      rw [e2]
      refine A _ ρ1 _ σ1 _ _ (R1.grow hd') (l1.trans (Le.new (R1.sub.none hd'))) g1 (S1.mono (Le.new (R1.sub.none hd')) .rfl') ⟨rfl, hx, by rw [h1]; rfl, .inr ⟨d, _, rfl, upd_same, fun i n z z1 z2 => ?_⟩⟩
      exact zip_lookup (ys := [V.int k]) (by rw [h1]; rfl) hnd z1 (by
        cases i with
        | zero => cases z2; rfl
        | succ i => cases z2)
    · have hcc : e.cls ≠ c := of_decide_eq_false hb
      unfold catchR at A
      dsimp only at A
      rw [if_neg (by simpa using hcc)] at A
      exact A F1 ρ1 H1 σ1 _ dx R1 l1 g1 S1 rx'
end
end Cn

/-! # matched statements and defs keep what the evaluator says -/
namespace Cn
open PySem PySem.Spec PyProof.Rows L2
theorem nc_sole {t e : Expr} {l : Nat} {env : Env} (h : nc e = true) : swapsWithSole [t] e l env = pure false := by
  cases e <;> first | rfl | cases h
theorem wi_self (T : Tx) : T.wi T.side = T := rfl
section
variable {C : Calls} {xt : Xt} {Γ : Gam} {T : Tx} {X : Cx} {W' : WX}
theorem mIt_pi (G : CtxE C xt Γ T X W') {tg : Expr} : ∀ {it : It} {pe : Expr}, mIt Γ it pe = true → L2.PI X tg pe (tI T xt W' fun ws m => evIt C ws m it)
  | .seq e, pe, h => by
    simp only [mIt] at h
    obtain ⟨h1, h2⟩ := dec_and h
    exact Cn.PI.imp (pi_seq G.hK (sE e pe G h2).1) fun σ H Q q => by
      simp only [evIt] at q
      exact q
  | .rng a b, pe, h => by
    simp only [mIt] at h
    split at h
    · obtain ⟨h, h5⟩ := dec_and h
      obtain ⟨h, h4⟩ := dec_and h
      obtain ⟨h, h3⟩ := dec_and h
      obtain ⟨h1, h2⟩ := dec_and h
      obtain ⟨rfl, b2, b3, b4⟩ := bi_of G h1
      have ha := pa_cons (sE a _ G h4).1 (pa_cons (sE b _ G h5).1 pa_nil (star_cons h3)) (star_cons h2)
      refine Cn.PI.imp (pi_range2 b2 b3 ha (by rw [star_cons h2, star_cons h3]; rfl) (by rw [star_cons h3]; rfl)) fun σ H Q q => ?_
      obtain ⟨F, ρ, m, ws, R, S, A⟩ := q
      simp only [evIt] at A
      refine ⟨F, ρ, m, ws, R, S, A.bind.imp (fun F1 ρ1 H1 m1 w r1 l1 g1 k x hx => ?_) fun _ _ _ z => z⟩
      refine ⟨F1, ρ1, m1, ws, r1, S.mono l1 g1, k.bind.imp (fun F2 ρ2 H2 m2 u r2 l2 g2 k2 y hy => ?_) fun _ _ _ z => z⟩
      split at k2
      · rename_i i j
        obtain ⟨g, k2⟩ := guard_ok k2
        obtain ⟨g, g4⟩ := dec_and g
        obtain ⟨g, g3⟩ := dec_and g
        obtain ⟨g1, g2'⟩ := dec_and g
        have e1 := RD.intV hx
        have e2 := RD.intV hy
        subst e1 e2
        have d1 := of_decide_eq_true g1
        have d2 := of_decide_eq_true g2'
        have d3 := of_decide_eq_true g3
        have d4 := of_decide_eq_true g4
        exact ⟨i, j, rfl, ⟨by omega, by omega, by omega, by omega⟩, k2.ok r2 _ walk_rng⟩
      · exact k2.elim
    · cases h
  | .enu _, pe, h => by simp only [mIt] at h; cases h
  | .zip _ _, pe, h => by simp only [mIt] at h; cases h
end
set_option maxHeartbeats 8000000 in
mutual
theorem sS {C : Calls} {xt : Xt} : ∀ (s : S) {Γ : Gam} {T : Tx} {X : Cx} {W' : WX} (st : Stmt), CtxS C xt Γ T X W' → mS Γ s st = true → PS X st (tS T xt W' fun ws m => evS C ws m s)
  | .asg i e, Γ, T, X, W', st, G, h => by
    unfold mS at h
    split at h
    · obtain ⟨h, h4⟩ := dec_and h
      obtain ⟨h, h3⟩ := dec_and h
      obtain ⟨h1, h2⟩ := dec_and h
      obtain ⟨t1, t2⟩ := tgt_of G.e h2
      exact (ps_set (nd_of G.e) (slot_of G.e (of_decide_eq_true h1)) t1 (sE e _ G.e h4).1 (nc_sw h3) t2).imp fun D σ H q => q_asg q
    · cases h
  | .asgT is e, Γ, T, X, W', st, G, h => by
    unfold mS at h
    split at h
    · obtain ⟨h, h4⟩ := dec_and h
      obtain ⟨h, h3⟩ := dec_and h
      obtain ⟨h1, h2⟩ := dec_and h
      obtain ⟨q1, q2, q3⟩ := mNames_of G.e h1
      exact (ps_asg (sE e _ G.e h4).1 (pg_tup G.e.calm q1 q2 q3) (nc_sole h2) (nt_st h3) rfl).imp fun D σ H q => q_asgT G.e.hK q
    · cases h
  | .ex e, Γ, T, X, W', st, G, h => by
    unfold mS at h
    split at h
    · obtain ⟨h1, h2⟩ := dec_and h
      exact (ps_expr (sE e _ G.e h2).1 (nc_sw h1)).imp fun D σ H q => q_ex q
    · cases h
  | .ret e, Γ, T, X, W', st, G, h => by
    unfold mS at h
    split at h
    · exact (ps_ret (sE e _ G.e h).1).imp fun D σ H q => q_ret q
    · cases h
  | .if_ c a b, Γ, T, X, W', st, G, h => by
    unfold mS at h
    split at h
    · obtain ⟨h, h4⟩ := dec_and h
      obtain ⟨h, h3⟩ := dec_and h
      obtain ⟨h1, h2⟩ := dec_and h
      exact (ps_if ((sE c _ G.e h2).2.1 h1) (sSs a _ G h3) (sSs b _ G h4)).imp fun D σ H q => q_if q
    · cases h
  | .wh c b, Γ, T, X, W', st, G, h => by
    unfold mS at h
    split at h
    · obtain ⟨h, h3⟩ := dec_and h
      obtain ⟨h1, h2⟩ := dec_and h
      exact (ps_while G.po ((sE c _ G.e h2).2.1 h1) (sSs b _ G h3)).imp fun D σ H q => q_wh q
    · cases h
  | .for_ g it b, Γ, T, X, W', st, G, h => by
    unfold mS at h
    split at h
    · obtain ⟨h, h4⟩ := dec_and h
      obtain ⟨h, h3⟩ := dec_and h
      obtain ⟨h1, h2⟩ := dec_and h
      exact (ps_for G.po G.e.calm (mIt_pi G.e h3) (mTg_of G.e h1) (sSs b _ G h4) (nset_fold h2 _)).imp fun D σ H q => q_for G.e.hK q
    · cases h
  | .rais c f es, Γ, T, X, W', st, G, h => by
    unfold mS at h
    split at h
    · obtain ⟨h, h5⟩ := dec_and h
      obtain ⟨h, h4⟩ := dec_and h
      obtain ⟨h, h3⟩ := dec_and h
      obtain ⟨h1, h2⟩ := dec_and h
      have K := G.xc c _ (of_decide_eq_true h1)
      obtain ⟨fI, fd, ps, k, m1, m2, m3, m4, m5⟩ := K.mkr
      obtain ⟨d1, _, _⟩ := okN_d h3
      have hne : xt.xfn c ≠ [] := fun z => by
        have e := of_decide_eq_true h4
        rw [← K.fn, z] at e
        cases es with
        | nil => unfold mEs at h5; cases h5
        | cons _ _ => cases e
      have m5 := m5.elim (fun q => q.2.1) fun q => absurd q.1 hne
      refine (L2N.ps_raise G.e.calm G.e.tkN (pmk_oexN K.ox m1 m2 m5 m4 m3 (fun _ _ _ _ _ _ _ c => ?_) (gl_of G.e h2) K.gC (sEs es _ G.e h5) d1 ?_ ?_)).imp fun D σ H q => q_rais K.lt K.nd K.short (by rw [K.fn]; exact of_decide_eq_true h4) q
      · obtain ⟨_, _, _, _, _, _, _, _, _, _, _, _, z⟩ := c
        exact z.elim
      · cases es with
        | nil => unfold mEs at h5; cases h5
        | cons e es => unfold mEs at h5; exact star_cons (dec_and (dec_and h5).1).1
      · cases es with
        | nil => unfold mEs at h5; cases h5
        | cons e es => unfold mEs at h5; exact mEs_star (dec_and h5).2
    · obtain ⟨h, h5⟩ := dec_and h
      obtain ⟨h, h4⟩ := dec_and h
      obtain ⟨h, h3⟩ := dec_and h
      obtain ⟨h1, h2⟩ := dec_and h
      have K := G.xc c _ (of_decide_eq_true h1)
      obtain ⟨fI, fd, ps, k, m1, m2, m3, m4, m5⟩ := K.mkr
      obtain ⟨d1, _, _⟩ := okN_d h3
      have hz : (xt.xfn c).length = 0 := by rw [K.fn]; exact of_decide_eq_true h4
      have hnil := List.eq_nil_of_length_eq_zero hz
      have m5 := m5.elim (fun q => absurd hnil q.1) fun q => q.2
      have hes : es = .nil := by
        cases es with
        | nil => rfl
        | cons _ _ => exact absurd (of_decide_eq_true h5) (Nat.succ_ne_zero _)
      subst hes
      refine (L2N.ps_raise G.e.calm G.e.tkN (pmk_bare K.ox m1 m2 m5 m4 m3 (fun _ _ _ _ _ _ _ c => ?_) (gl_of G.e h2) K.gC d1)).imp fun D σ H q => q_rais0 K.lt hz q
      obtain ⟨_, _, _, _, _, _, _, _, _, _, _, _, z⟩ := c
      exact z.elim
    · cases h
  | .tryF b c i fs, Γ, T, X, W', st, G, h => by
    unfold mS at h
    split at h
    · rename_i body y np nm es rp rp2 pos' pos
      obtain ⟨h, h9⟩ := dec_and h
      obtain ⟨h, h8⟩ := dec_and h
      obtain ⟨h, h7⟩ := dec_and h
      obtain ⟨h, h6⟩ := dec_and h
      obtain ⟨h, h5⟩ := dec_and h
      obtain ⟨h, h4⟩ := dec_and h
      obtain ⟨h, h3⟩ := dec_and h
      obtain ⟨h1, h2⟩ := dec_and h
      have K := G.xc c _ (of_decide_eq_true h1)
      obtain ⟨d1, _, _⟩ := okN_d h3
      have hi := of_decide_eq_true h5
      have hloc := of_decide_eq_true h6
      have hvis : Γ.vis nm = true := by unfold Gam.vis; rw [hloc]
      have hk : X.env.kindOf nm = some .local := by
        show X.env.scope.names.lookup nm = some .local
        rw [G.e.sc]; exact hloc
      have hfs := of_decide_eq_true h7
      rw [← K.fn] at hfs
      subst hfs
      rw [← K.fn] at h8
      have suite : ∀ (a : Addr) (oe : Obj) (cls : Value) (d : Option Addr) (pn : List (Addr × Obj)), Zc cls d oe → (∃ vs, oe.data = .fields vs) → PSs (X.suite a ((a, oe) :: pn)) [.Return (some (.List es rp)) rp2] (tRet (tLst (tXs a cls d (xt.xad c) i (xt.xfn c)))) :=
        fun a oe cls d pn hz hf => pss_one (ps_ret (pe_lst (mXf_pa G.e hi hvis h4 K.xf hz hf K.no h8)))
      cases hn : Γ.n with
      | true =>
        refine (L2N.ps_try_as (tb := fun W => tS T xt W fun ws m => evSs C ws m b) (ts := fun a cls d => tRet (tLst (tXs a cls d (xt.xad c) i (xt.xfn c)))) (Wout := W') G.stk G.frm (nd_of G.e) (slot_of G.e hi) hk ⟨gl_of G.e h2, d1, .inl K.gC⟩ G.e.tkN
          (fun W pn xe tk po => sSs b _ (G.tr tk (fun z => by rw [hn] at z; cases z) po) h9) (fun a oe cls d pn hz hf => suite a oe cls d pn hz.zc hf)).imp fun D σ H q => ?_
        exact q_tryF K.lt K.short G.xe q
      | false =>
        refine (ps_try_as (tb := fun W => tS T xt W fun ws m => evSs C ws m b) (ts := fun a cls d => tRet (tLst (tXs a cls d (xt.xad c) i (xt.xfn c)))) (Wout := W') G.stk G.frm (nd_of G.e) (slot_of G.e hi) hk ⟨gl_of G.e h2, d1, .inl K.gC⟩ (G.e.tk2 hn)
          (fun W pn xe tk po => sSs b _ (G.tr (takesN tk) (fun _ => tk) po) h9) suite).imp fun D σ H q => ?_
        exact q_tryF K.lt K.short G.xe q
    · cases h
  | .fzs i, Γ, T, X, W', st, G, h => by unfold mS at h; cases h
  | .seta c f o e, Γ, T, X, W', st, G, h => by unfold mS at h; cases h
  | .setx o k e, Γ, T, X, W', st, G, h => by unfold mS at h; cases h
  | .auga c f b o e, Γ, T, X, W', st, G, h => by unfold mS at h; cases h
  | .augx b o k e, Γ, T, X, W', st, G, h => by unfold mS at h; cases h
  | .tryN b c i, Γ, T, X, W', st, G, h => by unfold mS at h; cases h
  | .tryR b cs x f k, Γ, T, X, W', st, G, h => by
    unfold mS at h
    split at h
    · split at h
      · rename_i c
        obtain ⟨h, k13⟩ := dec_and h
        obtain ⟨h, k12⟩ := dec_and h
        obtain ⟨h, k11⟩ := dec_and h
        obtain ⟨h, k10⟩ := dec_and h
        obtain ⟨h, k9⟩ := dec_and h
        obtain ⟨h, k8⟩ := dec_and h
        obtain ⟨h, k7⟩ := dec_and h
        obtain ⟨h, k6⟩ := dec_and h
        obtain ⟨h, k5⟩ := dec_and h
        obtain ⟨h, k4⟩ := dec_and h
        obtain ⟨h, k3⟩ := dec_and h
        obtain ⟨k1, k2⟩ := dec_and h
        have Kc := G.xc c _ (of_decide_eq_true k1)
        have Kx := G.xc x _ (of_decide_eq_true k4)
        obtain ⟨d1, _, _⟩ := okN_d k3
        obtain ⟨d2, _, _⟩ := okN_d k6
        obtain ⟨d3, _, _⟩ := okN_d k10
        have h1 : (xt.xfn x).length = 1 := by rw [Kx.fn]; exact of_decide_eq_true k7
        have hne : xt.xfn x ≠ [] := fun z => by rw [z] at h1; cases h1
        obtain ⟨fI, fd, ps, kk, m1, m2, m3, m4, m5⟩ := Kx.mkr
        have m6 := m5.elim (fun q => q.2.2) fun q => absurd q.1 hne
        obtain ⟨u, hu, ru⟩ := G.e.nums _ k (of_decide_eq_true k8)
        have hn : Γ.n = false := by simpa using k12
        refine (L2H.ps_try_onlyX (tb := fun W => tS T xt W fun ws m => evSs C ws m b) (ts := tsR xt W' x k) (Wout := W') G.stk G.frm ⟨gl_of G.e k2, d1, .inl Kc.gC⟩ (G.pa k11) (G.e.tk2 hn)
          (fun W pn xe tk _ po => sSs b _ (G.trN tk po) k13) fun a oe cls d pn hz hf tk hot => pss_one (L2H.ps_raiseHN hot tk ?_)).imp fun D σ H q => ?_
        · refine L2H.pmk5_oexH (X := L2H.suiteX X a ((a, oe) :: pn)) Kx.ox m1 m2 m6 (L2H.roomH_mark m4 _) hot m3 (fun _ _ _ _ _ _ _ c => ?_) (gl_of G.e k5) Kx.gC (pa_cons (pe_glob (X := L2H.suiteX X a ((a, oe) :: pn)) (gl_of G.e k9) hu ru d3) pa_nil rfl) d2 rfl rfl
          obtain ⟨_, _, _, _, _, _, _, _, _, _, _, _, z⟩ := c
          exact z.elim
        · exact q_tryR Kc.lt Kx.lt h1 Kx.nd G.xe q
      · cases h
    · cases h
  | .base, Γ, T, X, W', st, G, h => by unfold mS at h; cases h
theorem sSs {C : Calls} {xt : Xt} : ∀ (s : Ss) {Γ : Gam} {T : Tx} {X : Cx} {W' : WX} (st : List Stmt), CtxS C xt Γ T X W' → mSs Γ s st = true → PSs X st (tS T xt W' fun ws m => evSs C ws m s)
  | .nil, Γ, T, X, W', st, G, h => by
    unfold mSs at h
    cases st with
    | nil => exact pss_nil.imp fun D σ H q => q_nil q
    | cons _ _ => cases h
  | .cons s r, Γ, T, X, W', st, G, h => by
    unfold mSs at h
    split at h
    · rename_i hz
      obtain ⟨i, rfl⟩ := isFz_eq hz
      exact (sSs r st G h).imp fun D σ H q => q_fzs q
    · split at h
      · obtain ⟨h1, h2⟩ := dec_and h
        exact (pss_cons (sS s _ G h1) (sSs r _ G h2)).imp fun D σ H q => q_cons q
      · cases h
end
end Cn

/-! # defs -/
namespace Cn
open PySem PySem.Spec PyProof.Rows L2
/-- a def's text: its parameters' names first among N -/
structure Dx where
  nm : Str
  qual : Str
  params : Arguments
  body : List Stmt
  scope : Scope
  N : List Str
  ps : List Str
structure XcK (xt : Xt) (tb : Tb) (P : Program) (w : World) (K : PySem.W.Frag) (mg : Str → Option Value) (base : Heap) (c : Nat) (y : Str) : Prop where
  lt : c < xt.num
  gC : mg y = some (.ref (xt.xad c))
  ox : OexC K (xt.xad c)
  xf : XfC K (xt.xad c)
  nd : (xt.xfn c).Nodup
  no : ∀ f ∈ xt.xfn c, PySem.W.findIn K (.ref (xt.xad c)) f = some none
  fn : xt.xfn c = tb.xf.getD c []
  short : (xt.xfn c).length ≤ 10
  mkr : ∃ fI fd ps, PySem.W.findIn K (.ref (xt.xad c)) "__init__" = some (some (.ref fI)) ∧ PySem.W.typeIn K (.ref fI) = some (.type "function") ∧ Binds K fd ps [] ∧
    ((xt.xfn c ≠ [] ∧ FnOk P w K mg base (L2.CX P w) 1 fI fd ps (spX (xt.xad c) (xt.xfn c)) ∧ L2H.FnH P w K mg base (L2.CX P w) 1 fI fd ps (spX (xt.xad c) (xt.xfn c))) ∨ (xt.xfn c = [] ∧ FnOk P w K mg base (L2.CX P w) 1 fI fd ps (spB (xt.xad c))))
/-- what the top has written -/
structure Glob (P : Program) (w : World) (K : PySem.W.Frag) (mg : Str → Option Value) (base : Heap) (xt : Xt) (tb : Tb) (dfs : List Df) (dx : List Dx) : Prop where
  nums : ∀ x i, tb.nums.lookup x = some i → ∃ u, mg x = some u ∧ RelV (.int i) u
  tups : ∀ p ∈ tb.tups, ∃ v u, mg p.1 = some u ∧ RelV v u ∧ RK K v p.2
  free : ∀ x ∈ tb.free, mg x = none
  dics : ∀ x ps, tb.dics.lookup x = some ps → ∃ a, mg x = some (.ref a) ∧ diB K a ps = true
  dn : ∀ (f : Nat) (x : Str), tb.dn[f]? = some (some x) → ∃ d, dx[f]? = some d
  fn : ∀ (f : Nat) (d : Dx), dx[f]? = some d → ∃ a fd, FunD K d.nm d.qual d.params d.body d.scope [] [] a fd ∧ Binds K fd d.ps [] ∧ ∀ x, tb.dn[f]? = some (some x) → mg x = some (.ref a)
  st : ∀ (f : Nat) (d : Dx), dx[f]? = some d → ∃ df, dfs[f]? = some df ∧ FnScope d.N d.ps d.scope ∧ df.np = d.ps.length ∧ df.ns = d.N.length ∧ mSs ⟨tb, d.N, d.scope, true, tb.md.getD f false, true⟩ df.body d.body = true
  xc : ∀ (c : Nat) (y : Str), tb.xn[c]? = some y → XcK xt tb P w K mg base c y
  xe : ∀ (c c' : Nat), c < xt.num → c' < xt.num → PySem.W.exmOne K (.ref (xt.xad c)) (.ref (xt.xad c')) = some (decide (c = c'))
section
variable {P : Program} {w : World} {K : PySem.W.Frag} {mg : Str → Option Value} {base : Heap} {xt : Xt} {tb : Tb} {dfs : List Df} {dx : List Dx} {T : Tx}
theorem takeN (b : Bool) {X : Cx} {E : XK} (hs : X.stack = X.env :: X.outer) (hf : X.env.frame = some X.env.locals) (hex : X.ex = []) {E₁ : Value → Shared → Prop}
    (hx : X.xe = fun e s' => wpAny (model X.prog X.w) X.A (leaving X.env e) (fun _ s'' => cxM b X.prog X.w X.outer X.H_0 X.s_0 E e s'') E₁ s') : L2N.Takes X (fun cls d _ H => E cls d H) := by
  cases b with
  | true => exact L2N.takes_of hs hf hex hx
  | false => exact takesN (takes_of hs hf hex hx)
theorem take2 (b : Bool) {X : Cx} {E : XK} (hs : X.stack = X.env :: X.outer) (hf : X.env.frame = some X.env.locals) (hex : X.ex = []) {E₁ : Value → Shared → Prop}
    (hx : X.xe = fun e s' => wpAny (model X.prog X.w) X.A (leaving X.env e) (fun _ s'' => cxM b X.prog X.w X.outer X.H_0 X.s_0 E e s'') E₁ s') (hb : b = false) : L2.Takes X (fun cls d _ H => E cls d H) := by
  subst hb
  exact takes_of hs hf hex hx
theorem spA_zero {f : Nat} {vs : List V} {H : Hp} {Q : VK} {E : XK} (h : spA T xt (run dfs 0 f) vs H Q E) : False := by
  obtain ⟨s, F, ρ, m, ws, R, hv, A⟩ := h
  exact A
theorem run_succ {n f : Nat} {d : Df} (h : dfs[f]? = some d) (ws : List W) (m : Mu) : run dfs (n + 1) f ws m = runD (run dfs n) d ws m := by
  show (match dfs[f]? with | some d => runD (run dfs n) d ws m | none => .stuck) = _
  rw [h]
theorem rsl_start {F : Hp} {ρ : Ro} {vs : List V} {ws : List W} {N : List Str} {d : Df} (hv : RWs T F ρ vs ws) (hl : ws.length = d.np) (hn : d.ns = N.length) : RSl T F ρ (L2.start N vs) (Cn.start d ws) := by
  have hvl : vs.length = ws.length := PairedLen hv
  unfold L2.start Cn.start
  refine ⟨by simp [hvl, hl, hn], fun i w e => ?_⟩
  by_cases hi : i < ws.length
  · rw [List.getElem?_append_left (by simpa using hi), List.getElem?_map] at e
    cases e1 : ws[i]? with
    | none => rw [e1] at e; cases e
    | some w' =>
      rw [e1] at e
      cases e
      obtain ⟨v, e2, h⟩ := paired_get hv e1
      refine ⟨v, ?_, h⟩
      rw [List.getElem?_append_left (by simp; omega), List.getElem?_map, e2]
      rfl
  · rw [List.getElem?_append_right (by simp; omega), List.getElem?_replicate] at e
    split at e <;> cases e
theorem fnok (hT : K = T.K) (G : Glob P w K mg base xt tb dfs dx) : ∀ (n f : Nat) (d : Dx), dx[f]? = some d → ∃ a fd, FunD K d.nm d.qual d.params d.body d.scope [] [] a fd ∧ Binds K fd d.ps [] ∧ (∀ x, tb.dn[f]? = some (some x) → mg x = some (.ref a)) ∧
    FnOk P w K mg base (cxM (tb.md.getD f false) P w) (n + 2) a fd d.ps (spA T xt (run dfs n f))
  | 0, f, d, hd => by
    obtain ⟨a, fd, h1, h2, h3⟩ := G.fn f d hd
    exact ⟨a, fd, h1, h2, h3, fun vs H Q E h => (spA_zero h).elim, fun A outer s H args us vs Q E _ _ _ _ h => (spA_zero h).elim⟩
  | n + 1, f, d, hd => by
    obtain ⟨a, fd, h1, h2, h3⟩ := G.fn f d hd
    obtain ⟨df, e1, sc, np, ns, hm⟩ := G.st f d hd
    have good : ∀ {s F ρ m ws vs} {Q : VK} {E : XK}, RWs (T.wi s) F ρ vs ws → After (T.wi s) xt F ρ (run dfs (n + 1) f ws m) (KV1 (T.wi s) Q) (fun c dx H' => E c dx H') → ws.length = df.np ∧
        After (T.wi s) xt F ρ (endS m.length (evSs (run dfs n) (Cn.start df ws) m df.body)) (KV1 (T.wi s) Q) (fun c dx H' => E c dx H') := by
      intro s F ρ m ws vs Q E hv A
      rw [run_succ e1] at A
      unfold runD at A
      split at A
      · rename_i hl; exact ⟨hl, A⟩
      · exact A.elim
    refine ⟨a, fd, h1, h2, h3, h1.ok sc (fun vs H Q E h => ?_) (fun cdv A outer s H vs Q E hr h => ?_)⟩
    · obtain ⟨s, F, ρ, m, ws, R, hv, A⟩ := h
      rw [PairedLen hv, (good hv A).1, np]
    · obtain ⟨sd, F, ρ, m, ws, R, hv, A⟩ := h
      obtain ⟨hl, A⟩ := good hv A
      refine ⟨_, sSs (C := run dfs n) (xt := xt) (Γ := ⟨tb, d.N, d.scope, true, tb.md.getD f false, true⟩) (T := T.wi sd) (W' := fun cls d _ H => E cls d H) df.body d.body ?_ hm, F, ρ, m, Cn.start df ws, R, rsl_start hv hl ns, ?_⟩
      · refine ⟨⟨hT, rfl, sc.nd, rfl, rfl, ?_, fun _ _ => rfl, takeN _ rfl rfl rfl rfl, take2 _ rfl rfl rfl rfl, G.nums, (by intro p hp; have q := G.tups p hp; rw [hT] at q; exact q), G.free, G.dics, fun g x hg => ?_⟩, passes_of rfl, rfl, rfl, fun _ hd => L2H.passesAt_of rfl hd, fun c y hc => ?_, G.xe⟩
        · have := hr.un
          have e : ∀ k : Nat, k + 16 * (n + 2) + 200 < cLine → k + 66 < cLine := fun k h => by omega
          exact e _ this
        · obtain ⟨d', hd'⟩ := G.dn g x hg
          obtain ⟨a', fd', i1, i2, i3, i4⟩ := fnok hT G n g d' hd'
          exact ⟨a', fd', d'.ps, n + 2, i3 x hg, i1.kp, i2, hr, i4⟩
        · have q := G.xc c y hc
          obtain ⟨fI, fdI, psI, m1, m2, m3, m4⟩ := q.mkr
          exact ⟨q.lt, q.gC, q.ox, q.xf, q.nd, q.no, q.fn, q.short, fI, fdI, psI, 1, m1, m2, m3, hr.mono (by omega), m4⟩
      · exact (end_ok (D := ⟨fun _ _ => False, fun _ _ => False, fun _ _ => False, fun _ _ => False⟩) R.len A).imp (fun _ _ z => z) rfl
end
/-- a method's call, on one line -/
theorem meth_eval {o : Expr} {nm : Str} {p2 p5 : Pos} {es : List Expr} {env : Env} (hb : attributeBase o nm env (eval o env) = eval o env) (hl : (p2.endLine == p5.line) = true) (hf : methodCallForm es.length (backTo p5 (starEach es env)) (backToKw p5 (keywordEach [] env)) = true) :
    eval (.Call (.Attribute o nm p2) es [] p5) env = (do
      let ov ← eval o env
      standAt p2.atName
      let (f, first) ← holding [ov] (getMethod ov nm (do return (← importBound o env).getD true))
      callWith p5 f first (backTo p5 (starEach es env)) (backToKw p5 (keywordEach [] env))) := by
  show (do
    let ov ← attributeBase o nm env (eval o env)
    standAt p2.atName
    methodCall o nm p2 p5 env ov (es.length + ([] : List Keyword).length) (backTo p5 (starEach es env)) (backToKw p5 (keywordEach [] env))) = _
  have e2 : methodCallPos true o env p2 p5 = pure p5 := by
    unfold methodCallPos
    rw [hl]
    rfl
  have e3 : ∀ ov, methodCall o nm p2 p5 env ov (es.length + ([] : List Keyword).length) (backTo p5 (starEach es env)) (backToKw p5 (keywordEach [] env)) = (do
      let (f, first) ← holding [ov] (getMethod ov nm (do return (← importBound o env).getD true))
      callWith p5 f first (backTo p5 (starEach es env)) (backToKw p5 (keywordEach [] env))) := by
    intro ov
    unfold methodCall calleeOf
    rw [show es.length + ([] : List Keyword).length = es.length from rfl, hf, e2]
    rfl
  rw [hb]
  simp only [e3]
/-! ### __init__ of an exception: ValueError.__init__(self, 'm'); self.f = f; .. -/
def mIn : Nat → List Str → List Stmt → Bool
  | _, [], st => st.isEmpty
  | j, f :: r, st => (match st with
    | .Assign [.Attribute (.Name s _) g _] (.Name y _) _ :: t => decide (s = ("self" : Str)) && decide (g = f) && decide (y = f) && okN f && mIn (j + 1) r t
    | _ => false)
def mInit (fns : List Str) : List Stmt → Bool
  | .Expr (.Call (.Attribute (.Name v _) i p2) [.Name s _, .Constant (.str _) _ _] [] p5) _ :: t => decide (v = ("ValueError" : Str)) && decide (i = ("__init__" : Str)) && decide (s = ("self" : Str)) && (p2.endLine == p5.line) && mIn 1 fns t
  | _ => false
section
variable {P : Program} {w : World} {K : PySem.W.Frag} {mg : Str → Option Value} {base : Heap}
/-- the assignments behind the first: the dict stands at d -/
def tOsts (K : PySem.W.Frag) : Nat → List Str → TS
  | _, [] => tNext
  | j, f :: r => tSeq (tOst K f (tVar 0) (tVar j)) (tOsts K (j + 1) r)
theorem mIn_ps {X : Cx} {N : List Str} (hN : X.N = N) (nd : N.Nodup) (h0 : N[0]? = some ("self" : Str)) (hs : X.env.scope.names.lookup ("self" : Str) = some .local) : ∀ {fns : List Str} {j : Nat} {st : List Stmt},
    (∀ (i : Nat) (f : Str), fns[i]? = some f → N[j + i]? = some f ∧ X.env.scope.names.lookup f = some .local) → mIn j fns st = true → PSs X st (tOsts X.K j fns)
  | [], j, st, _, h => by
    unfold mIn at h
    cases st with
    | nil => exact pss_nil
    | cons _ _ => cases h
  | f :: r, j, st, hf, h => by
    unfold mIn at h
    split at h
    · obtain ⟨h, h5⟩ := dec_and h
      obtain ⟨h, h4⟩ := dec_and h
      obtain ⟨h, h3⟩ := dec_and h
      obtain ⟨h1, h2⟩ := dec_and h
      cases of_decide_eq_true h1
      cases of_decide_eq_true h2
      cases of_decide_eq_true h3
      obtain ⟨d1, d2, _⟩ := okN_d h4
      obtain ⟨g1, g2⟩ := hf 0 _ rfl
      refine pss_cons (ps_ost (pe_var (by rw [hN]; exact h0) (.inl hs) (by decide +kernel) (by decide +kernel)) (pe_var (by rw [hN]; exact g1) (.inl g2) d1 d2) rfl) (mIn_ps hN nd h0 hs (fun i f' e => ?_) h5)
      have := hf (i + 1) f' e
      rw [show j + 1 + i = j + (i + 1) by omega]
      exact this
    · cases h
theorem osts_ok {Ca a : Addr} {no : ∀ f : Str, Prop} (ox : OexC K Ca) {σ : L2.St} {H0 : Hp} {D : Ends} (ha : H0 a = some (exo a Ca none)) (hs : σ[0]? = some (some (.ref a))) : ∀ {fns : List Str} {ys : List V} {j : Nat} {acc : List (Str × V)} {d : Addr} , H0 d = none → d ≠ a → fns.length = ys.length → acc.length + fns.length ≤ 900 →
    (∀ f ∈ fns, PySem.W.findIn K (.ref Ca) f = some none) → (∀ (i : Nat) (y : V), ys[i]? = some y → σ[j + i]? = some (some y)) → D.nx σ (upd (upd H0 d (exd d ((fns.zip ys).reverse ++ acc))) a (exo a Ca (some d))) →
    tOsts K j fns D σ (upd (upd H0 d (exd d acc)) a (exo a Ca (some d)))
  | [], [], j, acc, d, hd, hda, hl, hz, hno, hy, q => q
  | [], _ :: _, j, acc, d, hd, hda, hl, hz, hno, hy, q => by simp at hl
  | _ :: _, [], j, acc, d, hd, hda, hl, hz, hno, hy, q => by simp at hl
  | f :: r, y :: s, j, acc, d, hd, hda, hl, hz, hno, hy, q => by
    refine ⟨y, hy 0 y rfl, _, hs, a, Ca, rfl, ox, hno f List.mem_cons_self, .inr ⟨d, acc, upd_same, by rw [upd_ne hda, upd_same], by simp at hz; omega, ?_⟩⟩
    have e : upd (upd (upd H0 d (exd d acc)) a (exo a Ca (some d))) d (exd d ((f, y) :: acc)) = upd (upd H0 d (exd d ((f, y) :: acc))) a (exo a Ca (some d)) := by
      funext b
      by_cases h1 : b = d
      · subst h1; rw [upd_same, upd_ne hda, upd_same]
      · rw [upd_ne h1]
        by_cases h2 : b = a
        · subst h2; rw [upd_same, upd_same]
        · rw [upd_ne h2, upd_ne h2, upd_ne h1, upd_ne h1]
    rw [e]
    refine osts_ok (no := no) ox ha hs hd hda (by simpa using hl) (by simp at hz ⊢; omega) (fun f hf => hno f (List.mem_cons_of_mem _ hf)) (fun i y' e => ?_) ?_
    · have := hy (i + 1) y' e
      rw [show j + 1 + i = j + (i + 1) by omega]
      exact this
    · simpa using q
theorem init_ps {X : Cx} {body : List Stmt} {g : Str} {fns : List Str} (hN : X.N = (("self" : Str) :: g :: fns)) (nd : (("self" : Str) :: g :: fns).Nodup) (vV : PySem.W.findCls X.K (.type "ValueError") (.type "type") "__init__" = some (.val (.builtin "ValueError.__init__"))) (gV : Gl X "ValueError") (mV : X.mg "ValueError" = none)
    (hl : ∀ x ∈ (("self" : Str) :: g :: fns), X.env.scope.names.lookup x = some .local) (hm : mInit (g :: fns) body = true) :
    ∃ m, PSs X body (tSeq (tDrop (tVeI X.K (tCons (tVar 0) (tCons (tC (.str m)) tNil)))) (tOsts X.K 1 (g :: fns))) := by
  unfold mInit at hm
  split at hm
  · rename_i v p1 i p2 sn p3 m j p4 p5 p6 t
    obtain ⟨hm, h4⟩ := dec_and hm
    obtain ⟨hm, h5⟩ := dec_and hm
    obtain ⟨hm, h3⟩ := dec_and hm
    obtain ⟨h1, h2⟩ := dec_and hm
    cases of_decide_eq_true h1
    cases of_decide_eq_true h2
    cases of_decide_eq_true h3
    have pself : PE X (.Name "self" p3) (tVar 0) := pe_var (by rw [hN]; rfl) (.inl (hl _ List.mem_cons_self)) (by decide +kernel) (by decide +kernel)
    refine ⟨m, pss_cons (ps_expr (pe_veinit gV mV vV (pa_cons pself (pa_cons pe_str pa_nil)) (meth_eval rfl h5 rfl)) rfl)
      (mIn_ps hN nd rfl (hl _ List.mem_cons_self) (fun i x e => ?_) h4)⟩
    refine ⟨?_, hl x (List.mem_cons_of_mem _ (List.mem_of_getElem? e))⟩
    rw [Nat.add_comm 1 i]
    exact e
  · cases hm
theorem init_rd {Ca : Addr} {g : Str} {fns : List Str} {m : Str} {vs : List V} {H : Hp} {Q : VK} {E : XK} (ox : OexC K Ca) (no : ∀ x ∈ g :: fns, PySem.W.findIn K (.ref Ca) x = some none) (hsh : (g :: fns).length ≤ 10) (h : spX Ca (g :: fns) vs H Q E) :
    tSeq (tDrop (tVeI K (tCons (tVar 0) (tCons (tC (.str m)) tNil)))) (tOsts K 1 (g :: fns)) { nx := fun _ H' => Q .non H', rt := Q } (L2.start (("self" : Str) :: g :: fns) vs) H := by
  obtain ⟨a, ys, rfl, hy, ha, k⟩ := h
  cases ys with
  | nil => simp at hy
  | cons y ys =>
    have hs0 : (L2.start (("self" : Str) :: g :: fns) (V.ref a :: y :: ys))[0]? = some (some (.ref a)) := rfl
    have hsy : ∀ (i : Nat) (z : V), (y :: ys)[i]? = some z → (L2.start (("self" : Str) :: g :: fns) (V.ref a :: y :: ys))[1 + i]? = some (some z) := fun i z e => by
      unfold L2.start
      rw [List.getElem?_append_left (by
        have := (List.getElem?_eq_some_iff.mp e).1
        simp at this ⊢; omega), List.getElem?_map, Nat.add_comm 1 i]
      show Option.map some ((y :: ys)[i]?) = _
      rw [e]; rfl
    refine ⟨_, hs0, a, Ca, [V.str m], rfl, (by simp), ox, ha, ?_⟩
    refine ⟨y, hsy 0 y rfl, _, hs0, a, Ca, rfl, ox, no g List.mem_cons_self, .inl ⟨ha, fun d hd hda => ?_⟩⟩
    have hy' : fns.length = ys.length := by simpa using hy.symm
    refine osts_ok (no := fun _ => True) ox ha hs0 hd hda hy' (by simp at hsh ⊢; omega) (fun x hx => no x (List.mem_cons_of_mem _ hx)) (fun i z e => ?_) ?_
    · have := hsy (i + 1) z e
      rw [show 1 + 1 + i = 1 + (i + 1) by omega]
      exact this
    · have := k d hd hda
      simpa using this
/-- __init__ keeps its promise: one field at least; where another exception is being handled too -/
theorem init_ok {qual : Str} {params : Arguments} {body : List Stmt} {scope : Scope} {f Ca : Addr} {fd : FuncData} {g : Str} {fns : List Str} (F1 : FunD K ("__init__" : Str) qual params body scope [] [] f fd) (sc : FnScope (("self" : Str) :: g :: fns) (("self" : Str) :: g :: fns) scope)
    (ox : OexC K Ca) (no : ∀ x ∈ g :: fns, PySem.W.findIn K (.ref Ca) x = some none) (hsh : (g :: fns).length ≤ 10) (vV : PySem.W.findCls K (.type "ValueError") (.type "type") "__init__" = some (.val (.builtin "ValueError.__init__"))) (gV : scope.names.lookup ("ValueError" : Str) = some .globalImplicit) (mV : mg "ValueError" = none)
    (hl : ∀ x ∈ (("self" : Str) :: g :: fns), scope.names.lookup x = some .local) (hm : mInit (g :: fns) body = true) : FnOk P w K mg base (L2.CX P w) 1 f fd (("self" : Str) :: g :: fns) (spX Ca (g :: fns)) := by
  refine F1.ok sc (fun vs H Q E h => ?_) (fun cdv A outer s H vs Q E hr h => ?_)
  · obtain ⟨a, ys, rfl, hy, _⟩ := h
    simp [hy]
  · obtain ⟨m, ps⟩ := init_ps (X := cxOf (L2.CX P w) P w K mg base (("self" : Str) :: g :: fns) qual scope f cdv A outer s H E) rfl sc.nd vV gV mV hl hm
    exact ⟨_, ps, init_rd ox no hsh h⟩
theorem init_okH {qual : Str} {params : Arguments} {body : List Stmt} {scope : Scope} {f Ca : Addr} {fd : FuncData} {g : Str} {fns : List Str} (F1 : FunD K ("__init__" : Str) qual params body scope [] [] f fd) (sc : FnScope (("self" : Str) :: g :: fns) (("self" : Str) :: g :: fns) scope)
    (ox : OexC K Ca) (no : ∀ x ∈ g :: fns, PySem.W.findIn K (.ref Ca) x = some none) (hsh : (g :: fns).length ≤ 10) (vV : PySem.W.findCls K (.type "ValueError") (.type "type") "__init__" = some (.val (.builtin "ValueError.__init__"))) (gV : scope.names.lookup ("ValueError" : Str) = some .globalImplicit) (mV : mg "ValueError" = none)
    (hl : ∀ x ∈ (("self" : Str) :: g :: fns), scope.names.lookup x = some .local) (hm : mInit (g :: fns) body = true) : L2H.FnH P w K mg base (L2.CX P w) 1 f fd (("self" : Str) :: g :: fns) (spX Ca (g :: fns)) := by
  obtain ⟨oc, od, dV, kV, doc, pm, an, cdv, ct, osl, rfl, lk, hcd, _, _⟩ := F1.ex
  refine L2H.fn_ofH lk hcd sc (fun vs H Q E h => ?_) fun A outer s H vs Q E p hot hr h => ?_
  · obtain ⟨a, ys, rfl, hy, _⟩ := h
    simp [hy]
  · obtain ⟨m, ps⟩ := init_ps (X := L2H.cxH (L2.CX P w) P w K mg base (("self" : Str) :: g :: fns) qual scope f cdv A outer s H E p) rfl sc.nd vV gV mV hl hm
    exact ⟨_, ps, init_rd ox no hsh h⟩
/-- .. without a field -/
theorem init_bare {qual : Str} {params : Arguments} {body : List Stmt} {scope : Scope} {f Ca : Addr} {fd : FuncData} (F1 : FunD K ("__init__" : Str) qual params body scope [] [] f fd) (sc : FnScope [("self" : Str)] [("self" : Str)] scope)
    (ox : OexC K Ca) (vV : PySem.W.findCls K (.type "ValueError") (.type "type") "__init__" = some (.val (.builtin "ValueError.__init__"))) (gV : scope.names.lookup ("ValueError" : Str) = some .globalImplicit) (mV : mg "ValueError" = none)
    (hl : scope.names.lookup ("self" : Str) = some .local) (hm : mInit [] body = true) : FnOk P w K mg base (L2.CX P w) 1 f fd [("self" : Str)] (spB Ca) := by
  refine F1.ok sc (fun vs H Q E h => ?_) (fun cdv A outer s H vs Q E hr h => ?_)
  · obtain ⟨a, rfl, _⟩ := h
    rfl
  · unfold mInit at hm
    split at hm
    · rename_i v p1 i p2 sn p3 m j p4 p5 p6 t
      obtain ⟨hm, h4⟩ := dec_and hm
      obtain ⟨hm, h5⟩ := dec_and hm
      obtain ⟨hm, h3⟩ := dec_and hm
      obtain ⟨h1, h2⟩ := dec_and hm
      cases of_decide_eq_true h1
      cases of_decide_eq_true h2
      cases of_decide_eq_true h3
      have pself : PE (cxOf (L2.CX P w) P w K mg base [("self" : Str)] qual scope f cdv A outer s H E) (.Name "self" p3) (tVar 0) := pe_var rfl (.inl hl) (by decide +kernel) (by decide +kernel)
      refine ⟨tSeq (tDrop (tVeI K (tCons (tVar 0) (tCons (tC (.str m)) tNil)))) (tOsts K 1 []), pss_cons (ps_expr (pe_veinit gV mV vV (pa_cons pself (pa_cons pe_str pa_nil)) (meth_eval rfl h5 rfl)) rfl)
        (mIn_ps (N := [("self" : Str)]) rfl sc.nd rfl hl (fun i x e => by simp at e) h4), ?_⟩
      obtain ⟨a, rfl, ha, q⟩ := h
      exact ⟨_, rfl, a, Ca, [V.str m], rfl, (by simp), ox, ha, q⟩
    · cases hm
end
end Cn

/-! # what the top has written, by Booleans -/
namespace Cn
open PySem PySem.Spec PyProof.Rows L2
mutual
/-- a module's value is that data -/
def rkB (K : PySem.W.Frag) : D → Value → Bool
  | .non, u => (match u with | .none => true | _ => false)
  | .bl b, u => (match u with | .bool c => b == c | _ => false)
  | .int i, u => (match u with | .int j _ => decide (i = j) | _ => false)
  | .str cs, u => (match u with | .str x _ => decide (strV cs = x) | _ => false)
  | .tup xs, u => (match u with
    | .ref a => (match K.lookup a with
      | some ⟨.type c, _, .seq its _, _⟩ => decide (c = "tuple") && decide (its.size ≤ sizeLine) && rkBs K xs its.toList
      | _ => false)
    | _ => false)
  | _, _ => false
def rkBs (K : PySem.W.Frag) : List D → List Value → Bool
  | [], us => us.isEmpty
  | x :: r, us => (match us with | u :: s => rkB K x u && rkBs K r s | [] => false)
end
mutual
theorem rkB_ok {K : PySem.W.Frag} : ∀ {x : D} {u : Value}, rkB K x u = true → ∃ v, RelV v u ∧ RK K v x
  | .non, u, h => by
    cases u <;> unfold rkB at h <;> first | (cases h; done) | skip
    exact ⟨.non, rfl, .non⟩
  | .bl b, u, h => by
    cases u <;> unfold rkB at h <;> first | (cases h; done) | skip
    cases eq_of_beq h
    exact ⟨.bl b, rfl, .bl b⟩
  | .int i, u, h => by
    cases u <;> unfold rkB at h <;> first | (cases h; done) | skip
    cases of_decide_eq_true h
    exact ⟨.int i, ⟨_, rfl⟩, .int i⟩
  | .str cs, u, h => by
    cases u <;> unfold rkB at h <;> first | (cases h; done) | skip
    have e := of_decide_eq_true h
    subst e
    exact ⟨.str (strV cs), ⟨_, rfl⟩, .str cs⟩
  | .tup xs, u, h => by
    cases u <;> unfold rkB at h <;> first | (cases h; done) | skip
    rename_i a
    dsimp only at h
    split at h
    · rename_i c dd its n sl q
      obtain ⟨h, h3⟩ := dec_and h
      obtain ⟨h1, h2⟩ := dec_and h
      obtain ⟨vs, r1, r2⟩ := rkBs_ok h3
      exact ⟨.ref a, rfl, .tup (fun H => .inr ⟨_, its, n, q, by rw [of_decide_eq_true h1], rfl, of_decide_eq_true h2, r1⟩) r2⟩
    · cases h
  | .lst _, u, h => by unfold rkB at h; cases h
  | .ins _ _, u, h => by unfold rkB at h; cases h
  | .dK _ _, u, h => by unfold rkB at h; cases h
  | .dT _ _, u, h => by unfold rkB at h; cases h
theorem rkBs_ok {K : PySem.W.Frag} : ∀ {xs : List D} {us : List Value}, rkBs K xs us = true → ∃ vs, Vals vs us ∧ RKs K vs xs
  | [], us, h => by
    unfold rkBs at h
    cases us with
    | nil => exact ⟨[], .nil, .nil⟩
    | cons _ _ => cases h
  | x :: r, us, h => by
    unfold rkBs at h
    cases us with
    | nil => cases h
    | cons u s =>
      obtain ⟨h1, h2⟩ := dec_and h
      obtain ⟨v, a1, a2⟩ := rkB_ok h1
      obtain ⟨vs, b1, b2⟩ := rkBs_ok h2
      exact ⟨v :: vs, .cons a1 b1, .cons a2 b2⟩
end
def tupF (K : PySem.W.Frag) (x : Str) (t : D) : Bool := match PySem.W.nsIn K mainGlobals x with
  | some (some u) => rkB K t u
  | _ => false
theorem tupF_ok {K : PySem.W.Frag} {h : Heap} {mg : Str → Option Value} (X : K.In h) (G : h.Ns mainGlobals mg) {x : Str} {t : D} (c : tupF K x t = true) : ∃ v u, mg x = some u ∧ RelV v u ∧ RK K v t := by
  unfold tupF at c
  split at c
  · rename_i u e
    obtain ⟨v, h1, h2⟩ := rkB_ok c
    exact ⟨v, u, PySem.W.mg_of X G e, h1, h2⟩
  · cases c
/-- an own exception class -/
def oexB (K : PySem.W.Frag) (C : Addr) : Bool := match K.lookup C with
  | some ⟨.type t, _, .cls cd, sl⟩ => (match cd.mro, sl.toList with
    | .ref C' :: bm, [_, _, _, _, some (.builtin n), _] => decide (t = "type") && decide (C' = C) && decide (n = "ValueError.__new__") && !cd.hasDel && cd.hasDict && PySem.HandSPX.refsVE bm && decide (PySem.W.findIn K (.ref C) "__setattr__" = some (some (.builtin "object.__setattr__"))) &&
        decide (PySem.W.subIn K (.ref C) (.type "BaseException") = some true) && decide (PySem.W.typeIn K (.ref C) = some (.type "type")) && PySem.W.keepIn K (.ref C)
    | _, _ => false)
  | _ => false
theorem oexB_ok {K : PySem.W.Frag} {C : Addr} (h : oexB K C = true) : OexC K C := by
  unfold oexB at h
  split at h
  · rename_i t dd cd sl ho
    split at h
    · rename_i C' bm k0 k1 k2 k3 n k5 hm hs
      obtain ⟨h, g10⟩ := dec_and h
      obtain ⟨h, g9⟩ := dec_and h
      obtain ⟨h, g8⟩ := dec_and h
      obtain ⟨h, g7⟩ := dec_and h
      obtain ⟨h, g6⟩ := dec_and h
      obtain ⟨h, g5⟩ := dec_and h
      obtain ⟨h, g4⟩ := dec_and h
      obtain ⟨h, g3⟩ := dec_and h
      obtain ⟨g1, g2⟩ := dec_and h
      have e1 := of_decide_eq_true g1
      have e2 := of_decide_eq_true g2
      have e3 := of_decide_eq_true g3
      subst e1 e2 e3
      obtain ⟨nm, bs, mro, ns, qn, hd, sn, sub, ab, col, del⟩ := cd
      dsimp only at hm g4 g5
      subst hm g5
      have g4' : del = false := by simpa using g4
      subst g4'
      have hsl : sl = #[k0, k1, k2, k3, some (.builtin "ValueError.__new__"), k5] := by
        obtain ⟨l⟩ := sl
        simp only at hs
        rw [hs]
      subst hsl
      exact ⟨⟨nm, qn, ns, bs, bm, sn, sub, ab, col, dd, k0, k1, k2, k3, k5, ho, g6⟩, of_decide_eq_true g7, of_decide_eq_true g8, of_decide_eq_true g9, g10⟩
    · cases h
  · cases h
/-- all that is asked of an exception class of the text -/
def xcB (K : PySem.W.Frag) (x : Str) (fns : List Str) : Bool := oexB K (He.ga K x) && xfB K (He.ga K x) && fns.all (fun f => decide (PySem.W.findIn K (.ref (He.ga K x)) f = some none)) &&
  decide (PySem.W.findIn K (.ref (He.ga K x)) "__init__" = some (some (.ref (He.ma K (He.ga K x) "__init__")))) && decide (PySem.W.typeIn K (.ref (He.ma K (He.ga K x) "__init__")) = some (.type "function"))
theorem xcB_ok {K : PySem.W.Frag} {x : Str} {fns : List Str} (h : xcB K x fns = true) : OexC K (He.ga K x) ∧ XfC K (He.ga K x) ∧ (∀ f ∈ fns, PySem.W.findIn K (.ref (He.ga K x)) f = some none) ∧
    PySem.W.findIn K (.ref (He.ga K x)) "__init__" = some (some (.ref (He.ma K (He.ga K x) "__init__"))) ∧ PySem.W.typeIn K (.ref (He.ma K (He.ga K x) "__init__")) = some (.type "function") := by
  obtain ⟨h, h5⟩ := dec_and h
  obtain ⟨h, h4⟩ := dec_and h
  obtain ⟨h, h3⟩ := dec_and h
  obtain ⟨h1, h2⟩ := dec_and h
  exact ⟨oexB_ok h1, xfB_ok h2, fun f hf => of_decide_eq_true (List.all_eq_true.mp h3 f hf), of_decide_eq_true h4, of_decide_eq_true h5⟩
def vvB (K : PySem.W.Frag) : Bool := match PySem.W.findCls K (.type "ValueError") (.type "type") "__init__" with
  | some (.val (.builtin i)) => decide (i = "ValueError.__init__")
  | _ => false
theorem vvB_ok {K : PySem.W.Frag} (h : vvB K = true) : PySem.W.findCls K (.type "ValueError") (.type "type") "__init__" = some (.val (.builtin "ValueError.__init__")) := by
  unfold vvB at h
  split at h
  · rename_i i e
    rw [e, of_decide_eq_true h]
  · cases h
/-- a dict of numbers that the top wrote -/
def dicF (K : PySem.W.Frag) (x : Str) (ps : List (Int × Int)) : Bool := match PySem.W.nsIn K mainGlobals x with
  | some (some (.ref a)) => diB K a ps
  | _ => false
theorem dicF_ok {K : PySem.W.Frag} {h : Heap} {mg : Str → Option Value} (X : K.In h) (G : h.Ns mainGlobals mg) {x : Str} {ps : List (Int × Int)} (c : dicF K x ps = true) : ∃ a, mg x = some (.ref a) ∧ diB K a ps = true := by
  unfold dicF at c
  split at c
  · rename_i a e
    exact ⟨a, PySem.W.mg_of X G e, c⟩
  · cases c
/-- the written part holds no list -/
def noL (K : PySem.W.Frag) : Bool := K.all fun p => match p.2.cls with
  | .type t => !(t == ("list" : Str))
  | _ => true
theorem lookup_memK {a : Addr} {o : Obj} : ∀ {K : PySem.W.Frag}, K.lookup a = some o → (a, o) ∈ K
  | [], e => nomatch e
  | (b, x) :: r, e => by
    have e2 : (match a == b with | true => some x | false => List.lookup a r) = some o := e
    cases q : a == b with
    | true =>
      rw [q] at e2
      cases e2
      rw [beq_iff_eq.mp q]
      exact List.mem_cons_self
    | false =>
      rw [q] at e2
      exact List.mem_cons_of_mem _ (lookup_memK e2)
theorem noL_ok {K : PySem.W.Frag} (h : noL K = true) {a : Addr} {o : Obj} (e : K.lookup a = some o) (c : o.cls = .type "list") : False := by
  have hm : (a, o) ∈ K := lookup_memK e
  have q := List.all_eq_true.mp h (a, o) hm
  rw [c] at q
  exact absurd q (by decide)
end Cn

/-! # the end of a law: from a def's promise to the row -/
namespace Cn
open PySem PySem.Spec PyProof.Rows L2
open PySem.W (OpenSpec Codec WData)
theorem no_exc {P : Program} {w : World} {H : Hp} {s s' : Shared} {e : Value} (c : L2.CX P w [] H s (fun _ _ _ => False) e s') : False := by
  obtain ⟨_, _, _, _, _, _, _, _, _, _, _, _, z⟩ := c
  exact z
/-- the written part is what the Hook finds -/
theorem walkE {row : OpenSpec} {depth : Nat} {text : Program} {lax : List Str} {XQ : (Str → Option Value) → Heap → Prop} {YQ : World → Heap → Prop} {df : DefRec} {pars : List Str}
    (ws : row.wellSaid = true) (many : row.args.length = pars.length) (room : Room depth callerA)
    (tell : ∀ (w : World) (mg : Str → Option Value) (fa : Addr) (h : Heap), YQ w h → h.Ns mainGlobals mg → mg df.name = some (.ref fa) → ∃ (K : PySem.W.Frag) (fd : FuncData) (sp : Sp), K.In h ∧
      (∀ (s : Shared) (us : List Value), us.length = pars.length → BindsTo s fd ⟨us, []⟩ (pars.zip us)) ∧
      (∀ base : Heap, K.In base → base.Ns mainGlobals mg → FnOk row.prog w K mg base (L2.CX row.prog w) depth fa fd pars sp) ∧
      ∀ (H : Hp) (xs : List V) (a : Codec.denoteAll row.args), OnlyF H → Codec.withinAll row.args a = true → Codec.app row.args row.asked a = true → DwAll K H xs (Codec.encAll row.args a) →
        sp xs H (fun v H' => Dw K H' v (row.ret.enc (Codec.app row.args row.f a))) fun _ _ _ => False) :
    PySem.W.WalkOS text lax XQ YQ row df [] (fun f vs => PySem.call f vs) := by
  intro w s0 s1 mg mb gr yy fa ob pm cd doc dV kV _ _ _ _ hmg hgen given vals reads hpre hlay _ hwell _
  obtain ⟨arg, darg, qarg⟩ := PySem.W.os_pre_some hpre
  obtain ⟨rfl, hin⟩ := Codec.encAll_of_decAll row.args given arg darg
  obtain ⟨K, fd, sp, inK, hbind, hfn, hsp⟩ := tell w mg fa _ yy gr.T.g hmg
  refine PySem.W.enter_call ?_
  have ran := spec_call (R := []) (cl := classAt s0.heap) (d0 := row.ret.enc (Codec.app row.args row.f arg)) inK gr.T.g gr.T.b gr.T.builtins gr.T.nolimit hgen hwell (pl_encAll _ _) (layable_weight hlay) room hfn hbind
    (by rw [encAll_len]; exact many) (fun H xs only dw => hsp H xs arg only hin qarg dw) fun H e s' c => no_exc c
  refine codeAny_mono ran fun res st hq => ?_
  obtain ⟨val, read, rfl, g1, g2, g3, g4⟩ := hq
  exact ⟨.inl ⟨val, _, read, rfl, fun _ => rfl, g1, (OpenSpec.post_iff ws hin _ _).mpr rfl, fun no => Bool.noConfusion (show false = true from no)⟩, g2, g3, g4⟩
theorem rds_ints {T : Tx} {F : Hp} : ∀ {l : List Int} {vs : List V}, RDs T F vs (l.map .int) → vs = l.map V.int
  | [], _, h => by cases h; rfl
  | i :: l, _, h => by
    cases h with
    | cons h t =>
      cases h
      rw [rds_ints t]; rfl
/-- a list of numbers, as the row reads it -/
theorem dw_of {T : Tx} {F H : Hp} {v : V} {l : List Int} (r : RD T F v (.lst (l.map .int))) (le : Le F H) : Dw T.K H v (.list (l.map WData.int)) := by
  obtain ⟨a, vs, rfl, ha, hv⟩ := RD.seqL r
  have e := rds_ints hv
  subst e
  exact .lst (.inl (le.rd ha)) (dw_ints _)
/-- the entry: nothing is an object of ours -/
theorem rel0 {K : PySem.W.Frag} {c : Nat → Addr} {f : Nat → List Str} (H : Hp) : Rel ⟨K, c, f, fun _ => none⟩ H [] H [] :=
  ⟨Le.rfl', rfl, ⟨fun _ => (0, none), fun n p g e _ => by simp at e⟩, (fun a o e => nomatch e), fun a o e => nomatch e⟩
theorem dw_ints_rd {T : Tx} {H : Hp} : ∀ {l : List Int} {vs : List V}, DwAll T.K H vs (l.map WData.int) → RDs T H vs (l.map .int)
  | [], _, h => by cases h; exact .nil
  | i :: l, _, h => by
    cases h with
    | cons h t =>
      cases h
      exact .cons (.int i) (dw_ints_rd t)
/-- a list of numbers that is handed in -/
theorem rd_of {T : Tx} {H : Hp} (hn : noL T.K = true) {v : V} {l : List Int} (h : Dw T.K H v (.list (l.map WData.int))) : RD T H v (.lst (l.map .int)) := by
  cases h with
  | lst s q =>
    rcases s with s | ⟨o, its, n, e, c, _⟩
    · exact .lst s (dw_ints_rd q)
    · exact (noL_ok hn e c).elim
end Cn

namespace Cn
namespace S09
open PySem PySem.Spec PyProof.Rows L2
def t_ROMAN : D := .tup [(.tup [(.int (1000)), (.str [109])]), (.tup [(.int (900)), (.str [99, 109])]), (.tup [(.int (500)), (.str [100])]), (.tup [(.int (400)), (.str [99, 100])]), (.tup [(.int (100)), (.str [99])]), (.tup [(.int (90)), (.str [120, 99])]), (.tup [(.int (50)), (.str [108])]), (.tup [(.int (40)), (.str [120, 108])]), (.tup [(.int (10)), (.str [120])]), (.tup [(.int (9)), (.str [105, 120])]), (.tup [(.int (5)), (.str [118])]), (.tup [(.int (4)), (.str [105, 118])]), (.tup [(.int (1)), (.str [105])])]
def d_SHAPES : List (Int × Int) := [(65, 1), (97, 2), (82, 3), (114, 4)]
def b_want : Ss := .cons (.if_ (.not (.var 0)) (.cons (.rais 0 0 (.cons (.var 1) (.nil))) (.nil)) (.nil)) (.nil)
def f_want : Df := ⟨2, 2, b_want⟩
def b_codes : Ss := .cons (.ret (.b1 .tuple (.lc (.n 1) (.var 0) (.bl true) (.b1 .ord (.var 1))))) (.nil)
def f_codes : Df := ⟨1, 2, b_codes⟩
def b_is_point : Ss := .cons (.ret (.and2 (.ch .le .le (.int (0)) (.var 0) (.int (1114111))) (.not (.ch .le .le (.int (55296)) (.var 0) (.int (57343)))))) (.nil)
def f_is_point : Df := ⟨1, 1, b_is_point⟩
def b_length_by : Ss := .cons (.if_ (.ch .le .le (.int (194)) (.var 0) (.int (223))) (.cons (.ret (.int (2))) (.nil)) (.nil)) (.cons (.if_ (.ch .le .le (.int (224)) (.var 0) (.int (239))) (.cons (.ret (.int (3))) (.nil)) (.nil)) (.cons (.if_ (.ch .le .le (.int (240)) (.var 0) (.int (244))) (.cons (.ret (.int (4))) (.nil)) (.nil)) (.cons (.ret (.int (0))) (.nil))))
def f_length_by : Df := ⟨1, 1, b_length_by⟩
def b_sequence_at : Ss := .cons (.if_ (.cmp .lt (.ix (.var 0) (.var 1)) (.int (128))) (.cons (.ret (.tup (.cons (.ix (.var 0) (.var 1)) (.cons (.int (1)) (.nil))))) (.nil)) (.nil)) (.cons (.asg 2 (.call 3 (.cons (.ix (.var 0) (.var 1)) (.nil)))) (.cons (.if_ (.or2 (.cmp .eq (.var 2) (.int (0))) (.cmp .gt (.bin .add (.var 1) (.var 2)) (.b1 .len (.var 0)))) (.cons (.ret (.tup (.cons (.int (0)) (.cons (.int (0)) (.nil))))) (.nil)) (.nil)) (.cons (.asg 3 (.bin .sub (.ix (.var 0) (.var 1)) (.ix (.tup (.cons (.int (192)) (.cons (.int (224)) (.cons (.int (240)) (.nil))))) (.bin .sub (.var 2) (.int (2)))))) (.cons (.for_ (.n 4) (.seq (.sl (.var 0) (.bin .add (.var 1) (.int (1))) (.bin .add (.var 1) (.var 2)))) (.cons (.if_ (.not (.ch .le .le (.int (128)) (.var 4) (.int (191)))) (.cons (.ret (.tup (.cons (.int (0)) (.cons (.int (0)) (.nil))))) (.nil)) (.nil)) (.cons (.asg 3 (.bin .sub (.bin .add (.bin .mul (.int (64)) (.var 3)) (.var 4)) (.int (128)))) (.nil)))) (.cons (.if_ (.or2 (.cmp .lt (.var 3) (.ix (.tup (.cons (.int (128)) (.cons (.int (2048)) (.cons (.int (65536)) (.nil))))) (.bin .sub (.var 2) (.int (2))))) (.not (.call 2 (.cons (.var 3) (.nil))))) (.cons (.ret (.tup (.cons (.int (0)) (.cons (.int (0)) (.nil))))) (.nil)) (.nil)) (.cons (.ret (.tup (.cons (.var 3) (.cons (.var 2) (.nil))))) (.nil)))))))
def f_sequence_at : Df := ⟨2, 5, b_sequence_at⟩
def b_decoded : Ss := .cons (.asg 1 (.lstM (.nil))) (.cons (.asg 2 (.int (0))) (.cons (.wh (.cmp .lt (.var 2) (.b1 .len (.var 0))) (.cons (.asgT [3, 4] (.call 4 (.cons (.var 0) (.cons (.var 2) (.nil))))) (.cons (.if_ (.cmp .eq (.var 4) (.int (0))) (.cons (.ret (.non)) (.nil)) (.nil)) (.cons (.ex (.app (.var 1) (.var 3))) (.cons (.asg 2 (.bin .add (.var 2) (.var 4))) (.nil)))))) (.cons (.ret (.b1 .tuple (.var 1))) (.nil))))
def f_decoded : Df := ⟨1, 5, b_decoded⟩
def b_bytes_of_point : Ss := .cons (.if_ (.cmp .lt (.var 0) (.int (128))) (.cons (.ret (.lst (.cons (.var 0) (.nil)))) (.nil)) (.nil)) (.cons (.if_ (.cmp .lt (.var 0) (.int (2048))) (.cons (.ret (.lst (.cons (.bin .add (.int (192)) (.bin .fdiv (.var 0) (.int (64)))) (.cons (.bin .add (.int (128)) (.bin .mod (.var 0) (.int (64)))) (.nil))))) (.nil)) (.nil)) (.cons (.if_ (.cmp .lt (.var 0) (.int (65536))) (.cons (.ret (.lst (.cons (.bin .add (.int (224)) (.bin .fdiv (.var 0) (.int (4096)))) (.cons (.bin .add (.int (128)) (.bin .mod (.bin .fdiv (.var 0) (.int (64))) (.int (64)))) (.cons (.bin .add (.int (128)) (.bin .mod (.var 0) (.int (64)))) (.nil)))))) (.nil)) (.nil)) (.cons (.ret (.lst (.cons (.bin .add (.int (240)) (.bin .fdiv (.var 0) (.int (262144)))) (.cons (.bin .add (.int (128)) (.bin .mod (.bin .fdiv (.var 0) (.int (4096))) (.int (64)))) (.cons (.bin .add (.int (128)) (.bin .mod (.bin .fdiv (.var 0) (.int (64))) (.int (64)))) (.cons (.bin .add (.int (128)) (.bin .mod (.var 0) (.int (64)))) (.nil))))))) (.nil))))
def f_bytes_of_point : Df := ⟨1, 1, b_bytes_of_point⟩
def b_encoded : Ss := .cons (.asg 1 (.lstM (.nil))) (.cons (.for_ (.n 2) (.seq (.var 0)) (.cons (.ex (.ext (.var 1) (.call 6 (.cons (.var 2) (.nil))))) (.nil))) (.cons (.ret (.fz (.var 1))) (.nil)))
def f_encoded : Df := ⟨1, 3, b_encoded⟩
def b_letters_of : Ss := .cons (.asg 1 (.tup (.nil))) (.cons (.wh (.cmp .gt (.var 0) (.int (0))) (.cons (.asgT [0, 2] (.dm (.bin .sub (.var 0) (.int (1))) (.gi "LETTERS" (26)))) (.cons (.asg 1 (.bin .add (.tup (.cons (.bin .add (.int (97)) (.var 2)) (.nil))) (.var 1))) (.nil)))) (.cons (.ret (.var 1)) (.nil)))
def f_letters_of : Df := ⟨1, 3, b_letters_of⟩
def b_roman_of : Ss := .cons (.asg 1 (.tup (.nil))) (.cons (.for_ (.t [2, 3]) (.seq (.gt "ROMAN" (t_ROMAN))) (.cons (.asg 1 (.bin .add (.var 1) (.bin .mul (.call 1 (.cons (.var 3) (.nil))) (.bin .fdiv (.var 0) (.var 2))))) (.cons (.asg 0 (.bin .mod (.var 0) (.var 2))) (.nil)))) (.cons (.ret (.var 1)) (.nil)))
def f_roman_of : Df := ⟨1, 4, b_roman_of⟩
def b_raised : Ss := .cons (.ret (.b1 .tuple (.lc (.n 1) (.var 0) (.bl true) (.bin .sub (.var 1) (.int (32)))))) (.nil)
def f_raised : Df := ⟨1, 2, b_raised⟩
def b_shaped : Ss := .cons (.if_ (.and2 (.cmp .in_ (.var 0) (.tup (.cons (.gi "UPPER_LETTERS" (1)) (.cons (.gi "LOWER_LETTERS" (2)) (.nil))))) (.cmp .gt (.var 1) (.int (0)))) (.cons (.asg 2 (.call 8 (.cons (.var 1) (.nil)))) (.cons (.ret (.ife (.cmp .eq (.var 0) (.gi "UPPER_LETTERS" (1))) (.call 10 (.cons (.var 2) (.nil))) (.var 2))) (.nil))) (.nil)) (.cons (.if_ (.and2 (.cmp .in_ (.var 0) (.tup (.cons (.gi "UPPER_ROMAN" (3)) (.cons (.gi "LOWER_ROMAN" (4)) (.nil))))) (.ch .lt .le (.int (0)) (.var 1) (.gi "MOST_ROMAN" (3999)))) (.cons (.asg 2 (.call 9 (.cons (.var 1) (.nil)))) (.cons (.ret (.ife (.cmp .eq (.var 0) (.gi "UPPER_ROMAN" (3))) (.call 10 (.cons (.var 2) (.nil))) (.var 2))) (.nil))) (.nil)) (.cons (.ret (.call 1 (.cons (.b1 .str (.var 1)) (.nil)))) (.nil)))
def f_shaped : Df := ⟨2, 3, b_shaped⟩
def b_number_piece : Ss := .cons (.if_ (.cmp .eq (.sl (.var 0) (.var 1) (.bin .add (.var 1) (.int (1)))) (.tup (.cons (.gi "PERCENT" (37)) (.nil)))) (.cons (.ret (.tup (.cons (.tup (.cons (.gi "LITERAL" (-1)) (.cons (.gi "PERCENT" (37)) (.nil)))) (.cons (.bin .add (.var 1) (.int (1))) (.nil))))) (.nil)) (.nil)) (.cons (.asg 2 (.gi "ARABIC" (0))) (.cons (.if_ (.and2 (.cmp .lt (.var 1) (.b1 .len (.var 0))) (.gin "SHAPES" (d_SHAPES) (.ix (.var 0) (.var 1)))) (.cons (.asg 2 (.gget "SHAPES" (d_SHAPES) (.ix (.var 0) (.var 1)))) (.cons (.asg 1 (.bin .add (.var 1) (.int (1)))) (.nil))) (.nil)) (.cons (.if_ (.and2 (.cmp .lt (.var 1) (.b1 .len (.var 0))) (.cmp .eq (.ix (.var 0) (.var 1)) (.gi "COUNTER" (99)))) (.cons (.ret (.tup (.cons (.tup (.cons (.var 2) (.cons (.int (0)) (.nil)))) (.cons (.bin .add (.var 1) (.int (1))) (.nil))))) (.nil)) (.nil)) (.cons (.if_ (.and2 (.cmp .lt (.var 1) (.b1 .len (.var 0))) (.ch .le .le (.int (49)) (.ix (.var 0) (.var 1)) (.bin .add (.int (48)) (.gi "MOST_LEVEL_texts" (6))))) (.cons (.ret (.tup (.cons (.tup (.cons (.var 2) (.cons (.bin .sub (.ix (.var 0) (.var 1)) (.int (48))) (.nil)))) (.cons (.bin .add (.var 1) (.int (1))) (.nil))))) (.nil)) (.nil)) (.cons (.rais 1 0 (.nil)) (.nil))))))
def f_number_piece : Df := ⟨2, 3, b_number_piece⟩
def b_pieces_of : Ss := .cons (.asg 1 (.lstM (.nil))) (.cons (.asg 2 (.int (0))) (.cons (.wh (.cmp .lt (.var 2) (.b1 .len (.var 0))) (.cons (.if_ (.cmp .eq (.ix (.var 0) (.var 2)) (.gi "PERCENT" (37))) (.cons (.asgT [3, 2] (.call 12 (.cons (.var 0) (.cons (.bin .add (.var 2) (.int (1))) (.nil))))) (.cons (.ex (.app (.var 1) (.var 3))) (.nil))) (.cons (.ex (.app (.var 1) (.tup (.cons (.gi "LITERAL" (-1)) (.cons (.ix (.var 0) (.var 2)) (.nil)))))) (.cons (.asg 2 (.bin .add (.var 2) (.int (1)))) (.nil)))) (.nil))) (.cons (.ret (.fz (.var 1))) (.nil))))
def f_pieces_of : Df := ⟨1, 4, b_pieces_of⟩
def b_filled : Ss := .cons (.asg 3 (.tup (.nil))) (.cons (.for_ (.t [4, 5]) (.seq (.var 0)) (.cons (.if_ (.cmp .eq (.var 4) (.gi "LITERAL" (-1))) (.cons (.asg 3 (.bin .add (.var 3) (.tup (.cons (.var 5) (.nil))))) (.nil)) (.cons (.asg 3 (.bin .add (.var 3) (.call 11 (.cons (.var 4) (.cons (.ife (.cmp .eq (.var 5) (.int (0))) (.var 2) (.ix (.var 1) (.var 5))) (.nil)))))) (.nil))) (.nil))) (.cons (.ret (.var 3)) (.nil)))
def f_filled : Df := ⟨3, 6, b_filled⟩
def b_told : Ss := .cons (.ret (.bin .add (.lst (.cons (.b1 .len (.var 0)) (.nil))) (.var 0))) (.nil)
def f_told : Df := ⟨1, 1, b_told⟩
def b_text_of : Ss := .cons (.asg 1 (.call 5 (.cons (.var 0) (.nil)))) (.cons (.ex (.call 0 (.cons (.cmp .notN (.var 1) (.non)) (.cons (.gi "NO_TEXT" (-24)) (.nil))))) (.cons (.ret (.var 1)) (.nil)))
def f_text_of : Df := ⟨1, 2, b_text_of⟩
def b_filled_told : Ss := .cons (.asg 3 (.call 16 (.cons (.var 2) (.nil)))) (.cons (.asg 4 (.lst (.nil))) (.cons (.tryR (.cons (.asg 4 (.call 13 (.cons (.var 3) (.nil)))) (.nil)) [1] 0 0 (-22)) (.cons (.asg 5 (.bin .add (.lst (.cons (.int (0)) (.nil))) (.slT (.bin .add (.var 1) (.bin .mul (.lst (.cons (.int (0)) (.nil))) (.gi "MOST_LEVEL_numbering" (6)))) (.gi "MOST_LEVEL_numbering" (6))))) (.cons (.ret (.call 15 (.cons (.call 7 (.cons (.call 14 (.cons (.var 4) (.cons (.var 5) (.cons (.var 0) (.nil))))) (.nil))) (.nil)))) (.nil)))))
def f_filled_told : Df := ⟨3, 6, b_filled_told⟩
def b_fill : Ss := .cons (.tryF (.cons (.ret (.call 17 (.cons (.var 0) (.cons (.var 1) (.cons (.var 2) (.nil)))))) (.nil)) 0 3 (List.range 1)) (.nil)
def f_fill : Df := ⟨3, 4, b_fill⟩
def dfs : List Df := [f_want, f_codes, f_is_point, f_length_by, f_sequence_at, f_decoded, f_bytes_of_point, f_encoded, f_letters_of, f_roman_of, f_raised, f_shaped, f_number_piece, f_pieces_of, f_filled, f_told, f_text_of, f_filled_told, f_fill]
def tb : Tb where
  dn := [some "want", some "codes", some "is_point", some "length_by", some "sequence_at", some "decoded", some "bytes_of_point", some "encoded", some "letters_of", some "roman_of", some "raised", some "shaped", some "number_piece", some "pieces_of", some "filled", some "told", some "text_of", some "filled_told", some "fill"]
  nums := [("PERCENT", 37), ("COUNTER", 99), ("LITERAL", -1), ("ARABIC", 0), ("UPPER_LETTERS", 1), ("LOWER_LETTERS", 2), ("UPPER_ROMAN", 3), ("LOWER_ROMAN", 4), ("MOST_LEVEL_texts", 6), ("MOST_ROMAN", 3999), ("LETTERS", 26), ("BAD_VALUE", -22), ("NO_TEXT", -24), ("MOST_LEVEL_numbering", 6)]
  tups := [("ROMAN", t_ROMAN)]
  dics := [("SHAPES", d_SHAPES)]
  md := [true, true, true, true, true, true, true, true, true, true, true, true, true, true, true, true, true, false, false]
  free := ["len", "ord", "tuple", "any", "all", "str", "int", "max", "divmod", "range", "ValueError"]
  xn := ["Refused", "NoPattern"]
  xf := [["code"], []]
def top (i : Nat) : Stmt := PySem.Challenge.pw_crossnumbers_s09_fill.main.body.getD i (.Pass ⟨0, 0, 0, 0⟩)
abbrev s_want : Stmt := top 3
def x_want : Dx := ⟨"want", "want", defArgs s_want, defBody s_want, defScope s_want, ["truth", "code"], ["truth", "code"]⟩
abbrev s_codes : Stmt := top 18
def x_codes : Dx := ⟨"codes", "codes", defArgs s_codes, defBody s_codes, defScope s_codes, ["word", "sign"], ["word"]⟩
abbrev s_is_point : Stmt := top 19
def x_is_point : Dx := ⟨"is_point", "is_point", defArgs s_is_point, defBody s_is_point, defScope s_is_point, ["number"], ["number"]⟩
abbrev s_length_by : Stmt := top 20
def x_length_by : Dx := ⟨"length_by", "length_by", defArgs s_length_by, defBody s_length_by, defScope s_length_by, ["byte"], ["byte"]⟩
abbrev s_sequence_at : Stmt := top 21
def x_sequence_at : Dx := ⟨"sequence_at", "sequence_at", defArgs s_sequence_at, defBody s_sequence_at, defScope s_sequence_at, ["row", "at", "many", "found", "byte"], ["row", "at"]⟩
abbrev s_decoded : Stmt := top 22
def x_decoded : Dx := ⟨"decoded", "decoded", defArgs s_decoded, defBody s_decoded, defScope s_decoded, ["row", "found", "at", "point", "many"], ["row"]⟩
abbrev s_bytes_of_point : Stmt := top 23
def x_bytes_of_point : Dx := ⟨"bytes_of_point", "bytes_of_point", defArgs s_bytes_of_point, defBody s_bytes_of_point, defScope s_bytes_of_point, ["point"], ["point"]⟩
abbrev s_encoded : Stmt := top 24
def x_encoded : Dx := ⟨"encoded", "encoded", defArgs s_encoded, defBody s_encoded, defScope s_encoded, ["text", "found", "point"], ["text"]⟩
abbrev s_letters_of : Stmt := top 25
def x_letters_of : Dx := ⟨"letters_of", "letters_of", defArgs s_letters_of, defBody s_letters_of, defScope s_letters_of, ["number", "found", "digit"], ["number"]⟩
abbrev s_roman_of : Stmt := top 26
def x_roman_of : Dx := ⟨"roman_of", "roman_of", defArgs s_roman_of, defBody s_roman_of, defScope s_roman_of, ["number", "found", "worth", "signs"], ["number"]⟩
abbrev s_raised : Stmt := top 27
def x_raised : Dx := ⟨"raised", "raised", defArgs s_raised, defBody s_raised, defScope s_raised, ["text", "point"], ["text"]⟩
abbrev s_shaped : Stmt := top 28
def x_shaped : Dx := ⟨"shaped", "shaped", defArgs s_shaped, defBody s_shaped, defScope s_shaped, ["shape", "number", "found"], ["shape", "number"]⟩
abbrev s_number_piece : Stmt := top 29
def x_number_piece : Dx := ⟨"number_piece", "number_piece", defArgs s_number_piece, defBody s_number_piece, defScope s_number_piece, ["text", "at", "shape"], ["text", "at"]⟩
abbrev s_pieces_of : Stmt := top 30
def x_pieces_of : Dx := ⟨"pieces_of", "pieces_of", defArgs s_pieces_of, defBody s_pieces_of, defScope s_pieces_of, ["text", "found", "at", "piece"], ["text"]⟩
abbrev s_filled : Stmt := top 31
def x_filled : Dx := ⟨"filled", "filled", defArgs s_filled, defBody s_filled, defScope s_filled, ["pieces", "present", "counter", "found", "shape", "which"], ["pieces", "present", "counter"]⟩
abbrev s_told : Stmt := top 36
def x_told : Dx := ⟨"told", "told", defArgs s_told, defBody s_told, defScope s_told, ["row"], ["row"]⟩
abbrev s_text_of : Stmt := top 37
def x_text_of : Dx := ⟨"text_of", "text_of", defArgs s_text_of, defBody s_text_of, defScope s_text_of, ["row", "found"], ["row"]⟩
abbrev s_filled_told : Stmt := top 38
def x_filled_told : Dx := ⟨"filled_told", "filled_told", defArgs s_filled_told, defBody s_filled_told, defScope s_filled_told, ["counter", "levels", "pattern", "text", "pieces", "present"], ["counter", "levels", "pattern"]⟩
abbrev s_fill : Stmt := top 39
def x_fill : Dx := ⟨"fill", "fill", defArgs s_fill, defBody s_fill, defScope s_fill, ["counter", "levels", "pattern", "e"], ["counter", "levels", "pattern"]⟩
def dx : List Dx := [x_want, x_codes, x_is_point, x_length_by, x_sequence_at, x_decoded, x_bytes_of_point, x_encoded, x_letters_of, x_roman_of, x_raised, x_shaped, x_number_piece, x_pieces_of, x_filled, x_told, x_text_of, x_filled_told, x_fill]
def h_want : He.DefD := ⟨("want", none), "want", "want", defArgs s_want, defBody s_want, defScope s_want, [], []⟩
def h_codes : He.DefD := ⟨("codes", none), "codes", "codes", defArgs s_codes, defBody s_codes, defScope s_codes, [], []⟩
def h_is_point : He.DefD := ⟨("is_point", none), "is_point", "is_point", defArgs s_is_point, defBody s_is_point, defScope s_is_point, [], []⟩
def h_length_by : He.DefD := ⟨("length_by", none), "length_by", "length_by", defArgs s_length_by, defBody s_length_by, defScope s_length_by, [], []⟩
def h_sequence_at : He.DefD := ⟨("sequence_at", none), "sequence_at", "sequence_at", defArgs s_sequence_at, defBody s_sequence_at, defScope s_sequence_at, [], []⟩
def h_decoded : He.DefD := ⟨("decoded", none), "decoded", "decoded", defArgs s_decoded, defBody s_decoded, defScope s_decoded, [], []⟩
def h_bytes_of_point : He.DefD := ⟨("bytes_of_point", none), "bytes_of_point", "bytes_of_point", defArgs s_bytes_of_point, defBody s_bytes_of_point, defScope s_bytes_of_point, [], []⟩
def h_encoded : He.DefD := ⟨("encoded", none), "encoded", "encoded", defArgs s_encoded, defBody s_encoded, defScope s_encoded, [], []⟩
def h_letters_of : He.DefD := ⟨("letters_of", none), "letters_of", "letters_of", defArgs s_letters_of, defBody s_letters_of, defScope s_letters_of, [], []⟩
def h_roman_of : He.DefD := ⟨("roman_of", none), "roman_of", "roman_of", defArgs s_roman_of, defBody s_roman_of, defScope s_roman_of, [], []⟩
def h_raised : He.DefD := ⟨("raised", none), "raised", "raised", defArgs s_raised, defBody s_raised, defScope s_raised, [], []⟩
def h_shaped : He.DefD := ⟨("shaped", none), "shaped", "shaped", defArgs s_shaped, defBody s_shaped, defScope s_shaped, [], []⟩
def h_number_piece : He.DefD := ⟨("number_piece", none), "number_piece", "number_piece", defArgs s_number_piece, defBody s_number_piece, defScope s_number_piece, [], []⟩
def h_pieces_of : He.DefD := ⟨("pieces_of", none), "pieces_of", "pieces_of", defArgs s_pieces_of, defBody s_pieces_of, defScope s_pieces_of, [], []⟩
def h_filled : He.DefD := ⟨("filled", none), "filled", "filled", defArgs s_filled, defBody s_filled, defScope s_filled, [], []⟩
def h_told : He.DefD := ⟨("told", none), "told", "told", defArgs s_told, defBody s_told, defScope s_told, [], []⟩
def h_text_of : He.DefD := ⟨("text_of", none), "text_of", "text_of", defArgs s_text_of, defBody s_text_of, defScope s_text_of, [], []⟩
def h_filled_told : He.DefD := ⟨("filled_told", none), "filled_told", "filled_told", defArgs s_filled_told, defBody s_filled_told, defScope s_filled_told, [], []⟩
def h_fill : He.DefD := ⟨("fill", none), "fill", "fill", defArgs s_fill, defBody s_fill, defScope s_fill, [], []⟩
abbrev s_Refused_init : Stmt := inClass (top 1) 0
def h_Refused_init : He.DefD := ⟨("Refused", some "__init__"), "__init__", "Refused.__init__", defArgs s_Refused_init, defBody s_Refused_init, defScope s_Refused_init, [], []⟩
abbrev s_NoPattern_init : Stmt := inClass (top 2) 0
def h_NoPattern_init : He.DefD := ⟨("NoPattern", some "__init__"), "__init__", "NoPattern.__init__", defArgs s_NoPattern_init, defBody s_NoPattern_init, defScope s_NoPattern_init, [], []⟩
def fn : List He.DefD := [h_want, h_codes, h_is_point, h_length_by, h_sequence_at, h_decoded, h_bytes_of_point, h_encoded, h_letters_of, h_roman_of, h_raised, h_shaped, h_number_piece, h_pieces_of, h_filled, h_told, h_text_of, h_filled_told, h_fill, h_Refused_init, h_NoPattern_init]
def fa : List He.Fa := [.glo "want", .glo "codes", .glo "is_point", .glo "length_by", .glo "sequence_at", .glo "decoded", .glo "bytes_of_point", .glo "encoded", .glo "letters_of", .glo "roman_of", .glo "raised", .glo "shaped", .glo "number_piece", .glo "pieces_of", .glo "filled", .glo "told", .glo "text_of", .glo "filled_told", .glo "fill", .glo "Refused", .glo "NoPattern", .int "PERCENT" (37), .int "COUNTER" (99), .int "LITERAL" (-1), .int "ARABIC" (0), .int "UPPER_LETTERS" (1), .int "LOWER_LETTERS" (2), .int "UPPER_ROMAN" (3), .int "LOWER_ROMAN" (4), .int "MOST_LEVEL_texts" (6), .int "MOST_ROMAN" (3999), .int "LETTERS" (26), .int "BAD_VALUE" (-22), .int "NO_TEXT" (-24), .int "MOST_LEVEL_numbering" (6), .free "len", .free "ord", .free "tuple", .free "any", .free "all", .free "str", .free "int", .free "max", .free "divmod", .free "range", .free "ValueError", .exm "Refused" "Refused" true, .exm "Refused" "NoPattern" false, .exm "NoPattern" "Refused" false, .exm "NoPattern" "NoPattern" true]
def ex (K : PySem.W.Frag) : Bool := tupF K "ROMAN" t_ROMAN && xcB K "Refused" ["code"] && xcB K "NoPattern" [] && vvB K && dicF K "SHAPES" d_SHAPES && noL K
theorem ex_noL {K : PySem.W.Frag} (m : ex K = true) : noL K = true := by unfold ex at m; exact (dec_and m).2
def xad (K : PySem.W.Frag) : Nat → Addr
  | 0 => He.ga K "Refused"
  | 1 => He.ga K "NoPattern"
  | _ => 0
def xt (K : PySem.W.Frag) : Xt := ⟨xad K, fun c => tb.xf.getD c [], 2⟩
def T (K : PySem.W.Frag) : Tx := ⟨K, fun _ => 0, fun _ => [], fun _ => none⟩
theorem sc_want : FnScope x_want.N x_want.ps x_want.scope := ⟨rfl, rfl, rfl, by decide +kernel, rfl, by decide +kernel, by decide +kernel⟩
theorem m_want : mSs ⟨tb, x_want.N, x_want.scope, true, true, true⟩ f_want.body x_want.body = true := by decide +kernel
theorem sc_codes : FnScope x_codes.N x_codes.ps x_codes.scope := ⟨rfl, rfl, rfl, by decide +kernel, rfl, by decide +kernel, by decide +kernel⟩
theorem m_codes : mSs ⟨tb, x_codes.N, x_codes.scope, true, true, true⟩ f_codes.body x_codes.body = true := by decide +kernel
theorem sc_is_point : FnScope x_is_point.N x_is_point.ps x_is_point.scope := ⟨rfl, rfl, rfl, by decide +kernel, rfl, by decide +kernel, by decide +kernel⟩
theorem m_is_point : mSs ⟨tb, x_is_point.N, x_is_point.scope, true, true, true⟩ f_is_point.body x_is_point.body = true := by decide +kernel
theorem sc_length_by : FnScope x_length_by.N x_length_by.ps x_length_by.scope := ⟨rfl, rfl, rfl, by decide +kernel, rfl, by decide +kernel, by decide +kernel⟩
theorem m_length_by : mSs ⟨tb, x_length_by.N, x_length_by.scope, true, true, true⟩ f_length_by.body x_length_by.body = true := by decide +kernel
theorem sc_sequence_at : FnScope x_sequence_at.N x_sequence_at.ps x_sequence_at.scope := ⟨rfl, rfl, rfl, by decide +kernel, rfl, by decide +kernel, by decide +kernel⟩
theorem m_sequence_at : mSs ⟨tb, x_sequence_at.N, x_sequence_at.scope, true, true, true⟩ f_sequence_at.body x_sequence_at.body = true := by decide +kernel
theorem sc_decoded : FnScope x_decoded.N x_decoded.ps x_decoded.scope := ⟨rfl, rfl, rfl, by decide +kernel, rfl, by decide +kernel, by decide +kernel⟩
theorem m_decoded : mSs ⟨tb, x_decoded.N, x_decoded.scope, true, true, true⟩ f_decoded.body x_decoded.body = true := by decide +kernel
theorem sc_bytes_of_point : FnScope x_bytes_of_point.N x_bytes_of_point.ps x_bytes_of_point.scope := ⟨rfl, rfl, rfl, by decide +kernel, rfl, by decide +kernel, by decide +kernel⟩
theorem m_bytes_of_point : mSs ⟨tb, x_bytes_of_point.N, x_bytes_of_point.scope, true, true, true⟩ f_bytes_of_point.body x_bytes_of_point.body = true := by decide +kernel
theorem sc_encoded : FnScope x_encoded.N x_encoded.ps x_encoded.scope := ⟨rfl, rfl, rfl, by decide +kernel, rfl, by decide +kernel, by decide +kernel⟩
theorem m_encoded : mSs ⟨tb, x_encoded.N, x_encoded.scope, true, true, true⟩ f_encoded.body x_encoded.body = true := by decide +kernel
theorem sc_letters_of : FnScope x_letters_of.N x_letters_of.ps x_letters_of.scope := ⟨rfl, rfl, rfl, by decide +kernel, rfl, by decide +kernel, by decide +kernel⟩
theorem m_letters_of : mSs ⟨tb, x_letters_of.N, x_letters_of.scope, true, true, true⟩ f_letters_of.body x_letters_of.body = true := by decide +kernel
theorem sc_roman_of : FnScope x_roman_of.N x_roman_of.ps x_roman_of.scope := ⟨rfl, rfl, rfl, by decide +kernel, rfl, by decide +kernel, by decide +kernel⟩
theorem m_roman_of : mSs ⟨tb, x_roman_of.N, x_roman_of.scope, true, true, true⟩ f_roman_of.body x_roman_of.body = true := by decide +kernel
theorem sc_raised : FnScope x_raised.N x_raised.ps x_raised.scope := ⟨rfl, rfl, rfl, by decide +kernel, rfl, by decide +kernel, by decide +kernel⟩
theorem m_raised : mSs ⟨tb, x_raised.N, x_raised.scope, true, true, true⟩ f_raised.body x_raised.body = true := by decide +kernel
theorem sc_shaped : FnScope x_shaped.N x_shaped.ps x_shaped.scope := ⟨rfl, rfl, rfl, by decide +kernel, rfl, by decide +kernel, by decide +kernel⟩
theorem m_shaped : mSs ⟨tb, x_shaped.N, x_shaped.scope, true, true, true⟩ f_shaped.body x_shaped.body = true := by decide +kernel
theorem sc_number_piece : FnScope x_number_piece.N x_number_piece.ps x_number_piece.scope := ⟨rfl, rfl, rfl, by decide +kernel, rfl, by decide +kernel, by decide +kernel⟩
theorem m_number_piece : mSs ⟨tb, x_number_piece.N, x_number_piece.scope, true, true, true⟩ f_number_piece.body x_number_piece.body = true := by decide +kernel
theorem sc_pieces_of : FnScope x_pieces_of.N x_pieces_of.ps x_pieces_of.scope := ⟨rfl, rfl, rfl, by decide +kernel, rfl, by decide +kernel, by decide +kernel⟩
theorem m_pieces_of : mSs ⟨tb, x_pieces_of.N, x_pieces_of.scope, true, true, true⟩ f_pieces_of.body x_pieces_of.body = true := by decide +kernel
theorem sc_filled : FnScope x_filled.N x_filled.ps x_filled.scope := ⟨rfl, rfl, rfl, by decide +kernel, rfl, by decide +kernel, by decide +kernel⟩
theorem m_filled : mSs ⟨tb, x_filled.N, x_filled.scope, true, true, true⟩ f_filled.body x_filled.body = true := by decide +kernel
theorem sc_told : FnScope x_told.N x_told.ps x_told.scope := ⟨rfl, rfl, rfl, by decide +kernel, rfl, by decide +kernel, by decide +kernel⟩
theorem m_told : mSs ⟨tb, x_told.N, x_told.scope, true, true, true⟩ f_told.body x_told.body = true := by decide +kernel
theorem sc_text_of : FnScope x_text_of.N x_text_of.ps x_text_of.scope := ⟨rfl, rfl, rfl, by decide +kernel, rfl, by decide +kernel, by decide +kernel⟩
theorem m_text_of : mSs ⟨tb, x_text_of.N, x_text_of.scope, true, true, true⟩ f_text_of.body x_text_of.body = true := by decide +kernel
theorem sc_filled_told : FnScope x_filled_told.N x_filled_told.ps x_filled_told.scope := ⟨rfl, rfl, rfl, by decide +kernel, rfl, by decide +kernel, by decide +kernel⟩
theorem m_filled_told : mSs ⟨tb, x_filled_told.N, x_filled_told.scope, true, false, true⟩ f_filled_told.body x_filled_told.body = true := by decide +kernel
theorem sc_fill : FnScope x_fill.N x_fill.ps x_fill.scope := ⟨rfl, rfl, rfl, by decide +kernel, rfl, by decide +kernel, by decide +kernel⟩
theorem m_fill : mSs ⟨tb, x_fill.N, x_fill.scope, true, false, true⟩ f_fill.body x_fill.body = true := by decide +kernel
theorem sc_Refused_init : FnScope ["self", "code"] ["self", "code"] (defScope s_Refused_init) := ⟨rfl, rfl, rfl, by decide +kernel, rfl, by decide +kernel, by decide +kernel⟩
theorem m_Refused_init : mInit ["code"] (defBody s_Refused_init) = true := by decide +kernel
theorem sc_NoPattern_init : FnScope ["self"] ["self"] (defScope s_NoPattern_init) := ⟨rfl, rfl, rfl, by decide +kernel, rfl, by decide +kernel, by decide +kernel⟩
theorem m_NoPattern_init : mInit [] (defBody s_NoPattern_init) = true := by decide +kernel
theorem st : ∀ (f : Nat) (d : Dx), dx[f]? = some d → ∃ df, dfs[f]? = some df ∧ FnScope d.N d.ps d.scope ∧ df.np = d.ps.length ∧ df.ns = d.N.length ∧ mSs ⟨tb, d.N, d.scope, true, tb.md.getD f false, true⟩ df.body d.body = true
  | 0, d, h => by cases h; exact ⟨f_want, rfl, sc_want, rfl, rfl, m_want⟩
  | 1, d, h => by cases h; exact ⟨f_codes, rfl, sc_codes, rfl, rfl, m_codes⟩
  | 2, d, h => by cases h; exact ⟨f_is_point, rfl, sc_is_point, rfl, rfl, m_is_point⟩
  | 3, d, h => by cases h; exact ⟨f_length_by, rfl, sc_length_by, rfl, rfl, m_length_by⟩
  | 4, d, h => by cases h; exact ⟨f_sequence_at, rfl, sc_sequence_at, rfl, rfl, m_sequence_at⟩
  | 5, d, h => by cases h; exact ⟨f_decoded, rfl, sc_decoded, rfl, rfl, m_decoded⟩
  | 6, d, h => by cases h; exact ⟨f_bytes_of_point, rfl, sc_bytes_of_point, rfl, rfl, m_bytes_of_point⟩
  | 7, d, h => by cases h; exact ⟨f_encoded, rfl, sc_encoded, rfl, rfl, m_encoded⟩
  | 8, d, h => by cases h; exact ⟨f_letters_of, rfl, sc_letters_of, rfl, rfl, m_letters_of⟩
  | 9, d, h => by cases h; exact ⟨f_roman_of, rfl, sc_roman_of, rfl, rfl, m_roman_of⟩
  | 10, d, h => by cases h; exact ⟨f_raised, rfl, sc_raised, rfl, rfl, m_raised⟩
  | 11, d, h => by cases h; exact ⟨f_shaped, rfl, sc_shaped, rfl, rfl, m_shaped⟩
  | 12, d, h => by cases h; exact ⟨f_number_piece, rfl, sc_number_piece, rfl, rfl, m_number_piece⟩
  | 13, d, h => by cases h; exact ⟨f_pieces_of, rfl, sc_pieces_of, rfl, rfl, m_pieces_of⟩
  | 14, d, h => by cases h; exact ⟨f_filled, rfl, sc_filled, rfl, rfl, m_filled⟩
  | 15, d, h => by cases h; exact ⟨f_told, rfl, sc_told, rfl, rfl, m_told⟩
  | 16, d, h => by cases h; exact ⟨f_text_of, rfl, sc_text_of, rfl, rfl, m_text_of⟩
  | 17, d, h => by cases h; exact ⟨f_filled_told, rfl, sc_filled_told, rfl, rfl, m_filled_told⟩
  | 18, d, h => by cases h; exact ⟨f_fill, rfl, sc_fill, rfl, rfl, m_fill⟩
  | n + 19, d, h => nomatch h
section
variable {P : Program} {w : World} {K : PySem.W.Frag} {h : Heap} {mg : Str → Option Value} {base : Heap}
theorem fns (X : K.In h) (G : h.Ns mainGlobals mg) (c : He.SaysD fa fn K) : ∀ (f : Nat) (d : Dx), dx[f]? = some d → ∃ a fd, FunD K d.nm d.qual d.params d.body d.scope [] [] a fd ∧ Binds K fd d.ps [] ∧ ∀ x, tb.dn[f]? = some (some x) → mg x = some (.ref a)
  | 0, d, e => by
    cases e
    obtain ⟨fd, F⟩ := c.def_ 0 (d := h_want) rfl
    exact ⟨_, fd, F, FunD.bindsN (ps := ["truth", "code"]) F fun _ _ _ _ _ _ us hl => match us, hl with | [_, _], _ => rfl, fun x e => by cases e; exact He.glo_ok X G (c.fact 0 (f := .glo "want") rfl)⟩
  | 1, d, e => by
    cases e
    obtain ⟨fd, F⟩ := c.def_ 1 (d := h_codes) rfl
    exact ⟨_, fd, F, FunD.bindsN (ps := ["word"]) F fun _ _ _ _ _ _ us hl => match us, hl with | [_], _ => rfl, fun x e => by cases e; exact He.glo_ok X G (c.fact 1 (f := .glo "codes") rfl)⟩
  | 2, d, e => by
    cases e
    obtain ⟨fd, F⟩ := c.def_ 2 (d := h_is_point) rfl
    exact ⟨_, fd, F, FunD.bindsN (ps := ["number"]) F fun _ _ _ _ _ _ us hl => match us, hl with | [_], _ => rfl, fun x e => by cases e; exact He.glo_ok X G (c.fact 2 (f := .glo "is_point") rfl)⟩
  | 3, d, e => by
    cases e
    obtain ⟨fd, F⟩ := c.def_ 3 (d := h_length_by) rfl
    exact ⟨_, fd, F, FunD.bindsN (ps := ["byte"]) F fun _ _ _ _ _ _ us hl => match us, hl with | [_], _ => rfl, fun x e => by cases e; exact He.glo_ok X G (c.fact 3 (f := .glo "length_by") rfl)⟩
  | 4, d, e => by
    cases e
    obtain ⟨fd, F⟩ := c.def_ 4 (d := h_sequence_at) rfl
    exact ⟨_, fd, F, FunD.bindsN (ps := ["row", "at"]) F fun _ _ _ _ _ _ us hl => match us, hl with | [_, _], _ => rfl, fun x e => by cases e; exact He.glo_ok X G (c.fact 4 (f := .glo "sequence_at") rfl)⟩
  | 5, d, e => by
    cases e
    obtain ⟨fd, F⟩ := c.def_ 5 (d := h_decoded) rfl
    exact ⟨_, fd, F, FunD.bindsN (ps := ["row"]) F fun _ _ _ _ _ _ us hl => match us, hl with | [_], _ => rfl, fun x e => by cases e; exact He.glo_ok X G (c.fact 5 (f := .glo "decoded") rfl)⟩
  | 6, d, e => by
    cases e
    obtain ⟨fd, F⟩ := c.def_ 6 (d := h_bytes_of_point) rfl
    exact ⟨_, fd, F, FunD.bindsN (ps := ["point"]) F fun _ _ _ _ _ _ us hl => match us, hl with | [_], _ => rfl, fun x e => by cases e; exact He.glo_ok X G (c.fact 6 (f := .glo "bytes_of_point") rfl)⟩
  | 7, d, e => by
    cases e
    obtain ⟨fd, F⟩ := c.def_ 7 (d := h_encoded) rfl
    exact ⟨_, fd, F, FunD.bindsN (ps := ["text"]) F fun _ _ _ _ _ _ us hl => match us, hl with | [_], _ => rfl, fun x e => by cases e; exact He.glo_ok X G (c.fact 7 (f := .glo "encoded") rfl)⟩
  | 8, d, e => by
    cases e
    obtain ⟨fd, F⟩ := c.def_ 8 (d := h_letters_of) rfl
    exact ⟨_, fd, F, FunD.bindsN (ps := ["number"]) F fun _ _ _ _ _ _ us hl => match us, hl with | [_], _ => rfl, fun x e => by cases e; exact He.glo_ok X G (c.fact 8 (f := .glo "letters_of") rfl)⟩
  | 9, d, e => by
    cases e
    obtain ⟨fd, F⟩ := c.def_ 9 (d := h_roman_of) rfl
    exact ⟨_, fd, F, FunD.bindsN (ps := ["number"]) F fun _ _ _ _ _ _ us hl => match us, hl with | [_], _ => rfl, fun x e => by cases e; exact He.glo_ok X G (c.fact 9 (f := .glo "roman_of") rfl)⟩
  | 10, d, e => by
    cases e
    obtain ⟨fd, F⟩ := c.def_ 10 (d := h_raised) rfl
    exact ⟨_, fd, F, FunD.bindsN (ps := ["text"]) F fun _ _ _ _ _ _ us hl => match us, hl with | [_], _ => rfl, fun x e => by cases e; exact He.glo_ok X G (c.fact 10 (f := .glo "raised") rfl)⟩
  | 11, d, e => by
    cases e
    obtain ⟨fd, F⟩ := c.def_ 11 (d := h_shaped) rfl
    exact ⟨_, fd, F, FunD.bindsN (ps := ["shape", "number"]) F fun _ _ _ _ _ _ us hl => match us, hl with | [_, _], _ => rfl, fun x e => by cases e; exact He.glo_ok X G (c.fact 11 (f := .glo "shaped") rfl)⟩
  | 12, d, e => by
    cases e
    obtain ⟨fd, F⟩ := c.def_ 12 (d := h_number_piece) rfl
    exact ⟨_, fd, F, FunD.bindsN (ps := ["text", "at"]) F fun _ _ _ _ _ _ us hl => match us, hl with | [_, _], _ => rfl, fun x e => by cases e; exact He.glo_ok X G (c.fact 12 (f := .glo "number_piece") rfl)⟩
  | 13, d, e => by
    cases e
    obtain ⟨fd, F⟩ := c.def_ 13 (d := h_pieces_of) rfl
    exact ⟨_, fd, F, FunD.bindsN (ps := ["text"]) F fun _ _ _ _ _ _ us hl => match us, hl with | [_], _ => rfl, fun x e => by cases e; exact He.glo_ok X G (c.fact 13 (f := .glo "pieces_of") rfl)⟩
  | 14, d, e => by
    cases e
    obtain ⟨fd, F⟩ := c.def_ 14 (d := h_filled) rfl
    exact ⟨_, fd, F, FunD.bindsN (ps := ["pieces", "present", "counter"]) F fun _ _ _ _ _ _ us hl => match us, hl with | [_, _, _], _ => rfl, fun x e => by cases e; exact He.glo_ok X G (c.fact 14 (f := .glo "filled") rfl)⟩
  | 15, d, e => by
    cases e
    obtain ⟨fd, F⟩ := c.def_ 15 (d := h_told) rfl
    exact ⟨_, fd, F, FunD.bindsN (ps := ["row"]) F fun _ _ _ _ _ _ us hl => match us, hl with | [_], _ => rfl, fun x e => by cases e; exact He.glo_ok X G (c.fact 15 (f := .glo "told") rfl)⟩
  | 16, d, e => by
    cases e
    obtain ⟨fd, F⟩ := c.def_ 16 (d := h_text_of) rfl
    exact ⟨_, fd, F, FunD.bindsN (ps := ["row"]) F fun _ _ _ _ _ _ us hl => match us, hl with | [_], _ => rfl, fun x e => by cases e; exact He.glo_ok X G (c.fact 16 (f := .glo "text_of") rfl)⟩
  | 17, d, e => by
    cases e
    obtain ⟨fd, F⟩ := c.def_ 17 (d := h_filled_told) rfl
    exact ⟨_, fd, F, FunD.bindsN (ps := ["counter", "levels", "pattern"]) F fun _ _ _ _ _ _ us hl => match us, hl with | [_, _, _], _ => rfl, fun x e => by cases e; exact He.glo_ok X G (c.fact 17 (f := .glo "filled_told") rfl)⟩
  | 18, d, e => by
    cases e
    obtain ⟨fd, F⟩ := c.def_ 18 (d := h_fill) rfl
    exact ⟨_, fd, F, FunD.bindsN (ps := ["counter", "levels", "pattern"]) F fun _ _ _ _ _ _ us hl => match us, hl with | [_, _, _], _ => rfl, fun x e => by cases e; exact He.glo_ok X G (c.fact 18 (f := .glo "fill") rfl)⟩
  | n + 19, d, e => nomatch e
theorem xcs (X : K.In h) (G : h.Ns mainGlobals mg) (c : He.SaysD fa fn K) (m : ex K = true) : ∀ (k : Nat) (y : Str), tb.xn[k]? = some y → XcK (xt K) tb P w K mg base k y
  | 0, y, e => by
    cases e
    unfold ex at m
    simp only [Bool.and_eq_true] at m
    have q := xcB_ok (m.1.1.1.1.2)
    have vv := vvB_ok (m.1.1.2)
    obtain ⟨fd, F⟩ := c.def_ 19 (d := h_Refused_init) rfl
    have bd : Binds K fd ["self", "code"] [] := FunD.bindsN F fun _ _ _ _ _ _ us hl => match us, hl with | [_, _], _ => rfl
    refine ⟨(by show 0 < 2; decide), He.glo_ok X G (c.fact 19 (f := .glo "Refused") rfl), q.1, q.2.1, (by show (["code"] : List Str).Nodup; decide +kernel), q.2.2.1, rfl, (by show (["code"] : List Str).length ≤ 10; decide), _, fd, ["self", "code"], q.2.2.2.1, q.2.2.2.2, bd, ?_⟩
    exact .inl ⟨(by show (["code"] : List Str) ≠ []; simp), init_ok F sc_Refused_init q.1 q.2.2.1 (by decide) vv (by decide +kernel) (He.free_ok X G (c.fact 45 (f := .free "ValueError") rfl)) (by decide +kernel) m_Refused_init, init_okH F sc_Refused_init q.1 q.2.2.1 (by decide) vv (by decide +kernel) (He.free_ok X G (c.fact 45 (f := .free "ValueError") rfl)) (by decide +kernel) m_Refused_init⟩
  | 1, y, e => by
    cases e
    unfold ex at m
    simp only [Bool.and_eq_true] at m
    have q := xcB_ok (m.1.1.1.2)
    have vv := vvB_ok (m.1.1.2)
    obtain ⟨fd, F⟩ := c.def_ 20 (d := h_NoPattern_init) rfl
    have bd : Binds K fd ["self"] [] := FunD.bindsN F fun _ _ _ _ _ _ us hl => match us, hl with | [_], _ => rfl
    refine ⟨(by show 1 < 2; decide), He.glo_ok X G (c.fact 20 (f := .glo "NoPattern") rfl), q.1, q.2.1, (by show ([] : List Str).Nodup; decide +kernel), q.2.2.1, rfl, (by show ([] : List Str).length ≤ 10; decide), _, fd, ["self"], q.2.2.2.1, q.2.2.2.2, bd, ?_⟩
    exact .inr ⟨rfl, init_bare F sc_NoPattern_init q.1 vv (by decide +kernel) (He.free_ok X G (c.fact 45 (f := .free "ValueError") rfl)) (by decide +kernel) m_NoPattern_init⟩
  | n + 2, y, e => nomatch e
theorem glob (X : K.In h) (G : h.Ns mainGlobals mg) (c : He.SaysD fa fn K) (m : ex K = true) : Glob P w K mg base (xt K) tb dfs dx where
  nums := fun x i e => by
    have hm : (x, i) ∈ tb.nums := PySem.mem_of_lookup e
    have hf : He.Fa.int x i ∈ fa := by
      have : ∀ p ∈ tb.nums, He.Fa.int p.1 p.2 ∈ fa := by
        intro p hp
        simp only [tb, List.mem_cons, List.not_mem_nil, or_false] at hp
        rcases hp with rfl | rfl | rfl | rfl | rfl | rfl | rfl | rfl | rfl | rfl | rfl | rfl | rfl | rfl <;> simp [fa]
      exact this _ hm
    obtain ⟨t, e2⟩ := He.int_ok X G (c.facts hf)
    exact ⟨_, e2, t, rfl⟩
  tups := fun p hp => by
    unfold ex at m
    simp only [Bool.and_eq_true] at m
    simp only [tb, List.mem_cons, List.not_mem_nil, or_false] at hp
    subst hp
    exact tupF_ok X G (m.1.1.1.1.1)
  free := fun x hx => by
    have : ∀ y ∈ tb.free, He.Fa.free y ∈ fa := by
      intro y hy
      simp only [tb, List.mem_cons, List.not_mem_nil, or_false] at hy
      rcases hy with rfl | rfl | rfl | rfl | rfl | rfl | rfl | rfl | rfl | rfl | rfl <;> simp [fa]
    exact He.free_ok X G (c.facts (this x hx))
  dics := fun x ps e => by
    unfold ex at m
    simp only [Bool.and_eq_true] at m
    have hm : (x, ps) ∈ tb.dics := PySem.mem_of_lookup e
    simp only [tb, List.mem_cons, List.not_mem_nil, or_false, Prod.mk.injEq] at hm
    rcases hm with ⟨rfl, rfl⟩
    · exact dicF_ok X G (m.1.2)
  dn := fun f x e => by
    have hl : f < tb.dn.length := (List.getElem?_eq_some_iff.mp e).1
    have hl2 : f < dx.length := hl
    exact ⟨dx[f], by rw [List.getElem?_eq_getElem hl2]⟩
  fn := fns X G c
  st := st
  xc := xcs X G c m
  xe := fun i j hi hj => by
    have hi : i < 2 := hi
    have hj : j < 2 := hj
    match i, hi, j, hj with
    | 0, _, 0, _ => exact He.exm_ok (c.fact 46 (f := .exm "Refused" "Refused" true) rfl)
    | 0, _, 1, _ => exact He.exm_ok (c.fact 47 (f := .exm "Refused" "NoPattern" false) rfl)
    | 1, _, 0, _ => exact He.exm_ok (c.fact 48 (f := .exm "NoPattern" "Refused" false) rfl)
    | 1, _, 1, _ => exact He.exm_ok (c.fact 49 (f := .exm "NoPattern" "NoPattern" true) rfl)
end
def nm0 : List Str := ["Refused", "NoPattern", "want", "PERCENT", "COUNTER", "LITERAL", "ARABIC", "UPPER_LETTERS", "LOWER_LETTERS", "UPPER_ROMAN", "LOWER_ROMAN", "SHAPES", "MOST_LEVEL_texts", "MOST_ROMAN", "ROMAN", "LETTERS", "codes", "is_point", "length_by", "sequence_at", "decoded", "bytes_of_point", "encoded", "letters_of", "roman_of", "raised", "shaped", "number_piece", "pieces_of", "filled"]
def nm1 : List Str := ["BAD_VALUE", "NO_TEXT", "MOST_LEVEL_numbering", "told", "text_of", "filled_told"]
def nms : List Str := nm0 ++ nm1
abbrev R : PySem.W.OpenSpec := PySem.Challenge.rw_crossnumbers_s09_fill
abbrev hk : PySem.W.Hook := He.hookX 6 fa fn [] [] ex
def ob (s : PySem.W.SharedT) : He.AlX := He.obsX 6 fa fn [] [] ex (HandSHeadRun.getT s)
theorem ob_eq (s : PySem.W.SharedT) : ob s = hk.obs s.abs := He.obsX_eq (HandSHeadRun.getT_eq s)
theorem ranTop0 (w : World) : HandSHeadRun.RunEqS R (PySem.W.view R.prog [39]) hk ob 9000 nms (w.withFollow "special-get-raises" false) := by
  intro os
  kernel_rfl
theorem ranTop1 (w : World) : HandSHeadRun.RunEqS R (PySem.W.view R.prog [39]) hk ob 9000 nms (w.withFollow "special-get-raises" true) := by
  intro os
  kernel_rfl
theorem ranTop (w : World) : HandSHeadRun.RunEqS R (PySem.W.view R.prog [39]) hk ob 9000 nms w := PySem.W.byRow2 "special-get-raises" (P := HandSHeadRun.RunEqS R (PySem.W.view R.prog [39]) hk ob 9000 nms) ranTop0 ranTop1 w
end S09
end Cn

namespace Cn
theorem lc_map {σ : Sl} {g : Tg} {c el : Sl → Mu → Res W} {m : Mu} {f : W → D} : ∀ (ws : List W), (∀ x ∈ ws, ∃ σ1, bindG σ x g = some σ1 ∧ c σ1 m = .ok (.d (.bl true)) m ∧ el σ1 m = .ok (.d (f x)) m) → lcGo σ g c el ws m = .ok (ws.map f) m
  | [], _ => rfl
  | x :: r, h => by
    obtain ⟨σ1, h1, h2, h3⟩ := h x List.mem_cons_self
    have ih := lc_map r fun y hy => h y (List.mem_cons_of_mem _ hy)
    rw [lcGo, h1]
    simp only [h2, h3, Res.nox_ok, Res.bind_ok, ih, List.map_cons]
/-- numbers as data -/
def nD (l : List Nat) : List D := l.map fun (c : Nat) => D.int (c : Int)
theorem nD_len (l : List Nat) : (nD l).length = l.length := by simp [nD]
theorem nD_app (a b : List Nat) : nD (a ++ b) = nD a ++ nD b := by simp [nD]
theorem run_at {T : List Df} {n f : Nat} {d : Df} (h : T[f]? = some d) (ws : List W) (m : Mu) : run T (n + 1) f ws m = runD (run T n) d ws m := by
  show (match T[f]? with | some d => runD (run T n) d ws m | none => .stuck) = _
  rw [h]
theorem ev_lc {C : Calls} {σ : Sl} {m : Mu} {g : Tg} {it c el : E} {us : List W} {f : W → D} (hi : ((evE C σ m it).bind fun x m => optR (itemsD x) m) = .ok us m) (h : ∀ x ∈ us, ∃ σ1, bindG (wipeS σ (tgs g)) x g = some σ1 ∧ evE C σ1 m c = .ok (.d (.bl true)) m ∧ evE C σ1 m el = .ok (.d (f x)) m) (hl : us.length ≤ line) :
    evE C σ m (.lc g it c el) = .ok (.d (.lst (us.map f))) m := by
  rw [evE, hi]
  show ((lcGo (wipeS σ (tgs g)) g (fun σ m => evE C σ m c) (fun σ m => evE C σ m el) us m).bind fun xs m => guardR (decide (xs.length ≤ line)) (Res.ok (W.d (D.lst xs)) m)) = _
  rw [lc_map us h]
  simp [guardR, hl]
theorem ev_ret {C : Calls} {σ : Sl} {m : Mu} {e : E} {r : Ss} : evSs C σ m (.cons (.ret e) r) = (evE C σ m e).toS σ fun w m => .ret w σ m := by
  simp only [evSs, evS]
  cases evE C σ m e <;> rfl
theorem ev_b1 {C : Calls} {σ : Sl} {m : Mu} {b : Bi} {a : E} : evE C σ m (.b1 b a) = (evE C σ m a).bind fun x m => b1R m b x := by simp only [evE]
end Cn

namespace Cn
namespace S09P
def t_ROMAN : D := .tup [(.tup [(.int (1000)), (.str [109])]), (.tup [(.int (900)), (.str [99, 109])]), (.tup [(.int (500)), (.str [100])]), (.tup [(.int (400)), (.str [99, 100])]), (.tup [(.int (100)), (.str [99])]), (.tup [(.int (90)), (.str [120, 99])]), (.tup [(.int (50)), (.str [108])]), (.tup [(.int (40)), (.str [120, 108])]), (.tup [(.int (10)), (.str [120])]), (.tup [(.int (9)), (.str [105, 120])]), (.tup [(.int (5)), (.str [118])]), (.tup [(.int (4)), (.str [105, 118])]), (.tup [(.int (1)), (.str [105])])]
def d_SHAPES : List (Int × Int) := [(65, 1), (97, 2), (82, 3), (114, 4)]
def b_want : Ss := .cons (.if_ (.not (.var 0)) (.cons (.rais 0 0 (.cons (.var 1) (.nil))) (.nil)) (.nil)) (.nil)
def f_want : Df := ⟨2, 2, b_want⟩
def b_codes : Ss := .cons (.ret (.b1 .tuple (.lc (.n 1) (.var 0) (.bl true) (.b1 .ord (.var 1))))) (.nil)
def f_codes : Df := ⟨1, 2, b_codes⟩
def b_is_point : Ss := .cons (.ret (.and2 (.ch .le .le (.int (0)) (.var 0) (.int (1114111))) (.not (.ch .le .le (.int (55296)) (.var 0) (.int (57343)))))) (.nil)
def f_is_point : Df := ⟨1, 1, b_is_point⟩
def b_length_by : Ss := .cons (.if_ (.ch .le .le (.int (194)) (.var 0) (.int (223))) (.cons (.ret (.int (2))) (.nil)) (.nil)) (.cons (.if_ (.ch .le .le (.int (224)) (.var 0) (.int (239))) (.cons (.ret (.int (3))) (.nil)) (.nil)) (.cons (.if_ (.ch .le .le (.int (240)) (.var 0) (.int (244))) (.cons (.ret (.int (4))) (.nil)) (.nil)) (.cons (.ret (.int (0))) (.nil))))
def f_length_by : Df := ⟨1, 1, b_length_by⟩
def b_sequence_at : Ss := .cons (.if_ (.cmp .lt (.ix (.var 0) (.var 1)) (.int (128))) (.cons (.ret (.tup (.cons (.ix (.var 0) (.var 1)) (.cons (.int (1)) (.nil))))) (.nil)) (.nil)) (.cons (.asg 2 (.call 3 (.cons (.ix (.var 0) (.var 1)) (.nil)))) (.cons (.if_ (.or2 (.cmp .eq (.var 2) (.int (0))) (.cmp .gt (.bin .add (.var 1) (.var 2)) (.b1 .len (.var 0)))) (.cons (.ret (.tup (.cons (.int (0)) (.cons (.int (0)) (.nil))))) (.nil)) (.nil)) (.cons (.asg 3 (.bin .sub (.ix (.var 0) (.var 1)) (.ix (.tup (.cons (.int (192)) (.cons (.int (224)) (.cons (.int (240)) (.nil))))) (.bin .sub (.var 2) (.int (2)))))) (.cons (.for_ (.n 4) (.seq (.sl (.var 0) (.bin .add (.var 1) (.int (1))) (.bin .add (.var 1) (.var 2)))) (.cons (.if_ (.not (.ch .le .le (.int (128)) (.var 4) (.int (191)))) (.cons (.ret (.tup (.cons (.int (0)) (.cons (.int (0)) (.nil))))) (.nil)) (.nil)) (.cons (.asg 3 (.bin .sub (.bin .add (.bin .mul (.int (64)) (.var 3)) (.var 4)) (.int (128)))) (.nil)))) (.cons (.if_ (.or2 (.cmp .lt (.var 3) (.ix (.tup (.cons (.int (128)) (.cons (.int (2048)) (.cons (.int (65536)) (.nil))))) (.bin .sub (.var 2) (.int (2))))) (.not (.call 2 (.cons (.var 3) (.nil))))) (.cons (.ret (.tup (.cons (.int (0)) (.cons (.int (0)) (.nil))))) (.nil)) (.nil)) (.cons (.ret (.tup (.cons (.var 3) (.cons (.var 2) (.nil))))) (.nil)))))))
def f_sequence_at : Df := ⟨2, 5, b_sequence_at⟩
def b_decoded : Ss := .cons (.asg 1 (.lstM (.nil))) (.cons (.asg 2 (.int (0))) (.cons (.wh (.cmp .lt (.var 2) (.b1 .len (.var 0))) (.cons (.asgT [3, 4] (.call 4 (.cons (.var 0) (.cons (.var 2) (.nil))))) (.cons (.if_ (.cmp .eq (.var 4) (.int (0))) (.cons (.ret (.non)) (.nil)) (.nil)) (.cons (.ex (.app (.var 1) (.var 3))) (.cons (.asg 2 (.bin .add (.var 2) (.var 4))) (.nil)))))) (.cons (.ret (.b1 .tuple (.var 1))) (.nil))))
def f_decoded : Df := ⟨1, 5, b_decoded⟩
def b_bytes_of_point : Ss := .cons (.if_ (.cmp .lt (.var 0) (.int (128))) (.cons (.ret (.lst (.cons (.var 0) (.nil)))) (.nil)) (.nil)) (.cons (.if_ (.cmp .lt (.var 0) (.int (2048))) (.cons (.ret (.lst (.cons (.bin .add (.int (192)) (.bin .fdiv (.var 0) (.int (64)))) (.cons (.bin .add (.int (128)) (.bin .mod (.var 0) (.int (64)))) (.nil))))) (.nil)) (.nil)) (.cons (.if_ (.cmp .lt (.var 0) (.int (65536))) (.cons (.ret (.lst (.cons (.bin .add (.int (224)) (.bin .fdiv (.var 0) (.int (4096)))) (.cons (.bin .add (.int (128)) (.bin .mod (.bin .fdiv (.var 0) (.int (64))) (.int (64)))) (.cons (.bin .add (.int (128)) (.bin .mod (.var 0) (.int (64)))) (.nil)))))) (.nil)) (.nil)) (.cons (.ret (.lst (.cons (.bin .add (.int (240)) (.bin .fdiv (.var 0) (.int (262144)))) (.cons (.bin .add (.int (128)) (.bin .mod (.bin .fdiv (.var 0) (.int (4096))) (.int (64)))) (.cons (.bin .add (.int (128)) (.bin .mod (.bin .fdiv (.var 0) (.int (64))) (.int (64)))) (.cons (.bin .add (.int (128)) (.bin .mod (.var 0) (.int (64)))) (.nil))))))) (.nil))))
def f_bytes_of_point : Df := ⟨1, 1, b_bytes_of_point⟩
def b_encoded : Ss := .cons (.asg 1 (.lstM (.nil))) (.cons (.for_ (.n 2) (.seq (.var 0)) (.cons (.ex (.ext (.var 1) (.call 6 (.cons (.var 2) (.nil))))) (.nil))) (.cons (.ret (.fz (.var 1))) (.nil)))
def f_encoded : Df := ⟨1, 3, b_encoded⟩
def b_letters_of : Ss := .cons (.asg 1 (.tup (.nil))) (.cons (.wh (.cmp .gt (.var 0) (.int (0))) (.cons (.asgT [0, 2] (.dm (.bin .sub (.var 0) (.int (1))) (.gi "LETTERS" (26)))) (.cons (.asg 1 (.bin .add (.tup (.cons (.bin .add (.int (97)) (.var 2)) (.nil))) (.var 1))) (.nil)))) (.cons (.ret (.var 1)) (.nil)))
def f_letters_of : Df := ⟨1, 3, b_letters_of⟩
def b_roman_of : Ss := .cons (.asg 1 (.tup (.nil))) (.cons (.for_ (.t [2, 3]) (.seq (.gt "ROMAN" (t_ROMAN))) (.cons (.asg 1 (.bin .add (.var 1) (.bin .mul (.call 1 (.cons (.var 3) (.nil))) (.bin .fdiv (.var 0) (.var 2))))) (.cons (.asg 0 (.bin .mod (.var 0) (.var 2))) (.nil)))) (.cons (.ret (.var 1)) (.nil)))
def f_roman_of : Df := ⟨1, 4, b_roman_of⟩
def b_raised : Ss := .cons (.ret (.b1 .tuple (.lc (.n 1) (.var 0) (.bl true) (.bin .sub (.var 1) (.int (32)))))) (.nil)
def f_raised : Df := ⟨1, 2, b_raised⟩
def b_shaped : Ss := .cons (.if_ (.and2 (.cmp .in_ (.var 0) (.tup (.cons (.gi "UPPER_LETTERS" (1)) (.cons (.gi "LOWER_LETTERS" (2)) (.nil))))) (.cmp .gt (.var 1) (.int (0)))) (.cons (.asg 2 (.call 8 (.cons (.var 1) (.nil)))) (.cons (.ret (.ife (.cmp .eq (.var 0) (.gi "UPPER_LETTERS" (1))) (.call 10 (.cons (.var 2) (.nil))) (.var 2))) (.nil))) (.nil)) (.cons (.if_ (.and2 (.cmp .in_ (.var 0) (.tup (.cons (.gi "UPPER_ROMAN" (3)) (.cons (.gi "LOWER_ROMAN" (4)) (.nil))))) (.ch .lt .le (.int (0)) (.var 1) (.gi "MOST_ROMAN" (3999)))) (.cons (.asg 2 (.call 9 (.cons (.var 1) (.nil)))) (.cons (.ret (.ife (.cmp .eq (.var 0) (.gi "UPPER_ROMAN" (3))) (.call 10 (.cons (.var 2) (.nil))) (.var 2))) (.nil))) (.nil)) (.cons (.ret (.call 1 (.cons (.b1 .str (.var 1)) (.nil)))) (.nil)))
def f_shaped : Df := ⟨2, 3, b_shaped⟩
def b_number_piece : Ss := .cons (.if_ (.cmp .eq (.sl (.var 0) (.var 1) (.bin .add (.var 1) (.int (1)))) (.tup (.cons (.gi "PERCENT" (37)) (.nil)))) (.cons (.ret (.tup (.cons (.tup (.cons (.gi "LITERAL" (-1)) (.cons (.gi "PERCENT" (37)) (.nil)))) (.cons (.bin .add (.var 1) (.int (1))) (.nil))))) (.nil)) (.nil)) (.cons (.asg 2 (.gi "ARABIC" (0))) (.cons (.if_ (.and2 (.cmp .lt (.var 1) (.b1 .len (.var 0))) (.gin "SHAPES" (d_SHAPES) (.ix (.var 0) (.var 1)))) (.cons (.asg 2 (.gget "SHAPES" (d_SHAPES) (.ix (.var 0) (.var 1)))) (.cons (.asg 1 (.bin .add (.var 1) (.int (1)))) (.nil))) (.nil)) (.cons (.if_ (.and2 (.cmp .lt (.var 1) (.b1 .len (.var 0))) (.cmp .eq (.ix (.var 0) (.var 1)) (.gi "COUNTER" (99)))) (.cons (.ret (.tup (.cons (.tup (.cons (.var 2) (.cons (.int (0)) (.nil)))) (.cons (.bin .add (.var 1) (.int (1))) (.nil))))) (.nil)) (.nil)) (.cons (.if_ (.and2 (.cmp .lt (.var 1) (.b1 .len (.var 0))) (.ch .le .le (.int (49)) (.ix (.var 0) (.var 1)) (.bin .add (.int (48)) (.gi "MOST_LEVEL_texts" (6))))) (.cons (.ret (.tup (.cons (.tup (.cons (.var 2) (.cons (.bin .sub (.ix (.var 0) (.var 1)) (.int (48))) (.nil)))) (.cons (.bin .add (.var 1) (.int (1))) (.nil))))) (.nil)) (.nil)) (.cons (.rais 1 0 (.nil)) (.nil))))))
def f_number_piece : Df := ⟨2, 3, b_number_piece⟩
def b_pieces_of : Ss := .cons (.asg 1 (.lstM (.nil))) (.cons (.asg 2 (.int (0))) (.cons (.wh (.cmp .lt (.var 2) (.b1 .len (.var 0))) (.cons (.if_ (.cmp .eq (.ix (.var 0) (.var 2)) (.gi "PERCENT" (37))) (.cons (.asgT [3, 2] (.call 12 (.cons (.var 0) (.cons (.bin .add (.var 2) (.int (1))) (.nil))))) (.cons (.ex (.app (.var 1) (.var 3))) (.nil))) (.cons (.ex (.app (.var 1) (.tup (.cons (.gi "LITERAL" (-1)) (.cons (.ix (.var 0) (.var 2)) (.nil)))))) (.cons (.asg 2 (.bin .add (.var 2) (.int (1)))) (.nil)))) (.nil))) (.cons (.ret (.fz (.var 1))) (.nil))))
def f_pieces_of : Df := ⟨1, 4, b_pieces_of⟩
def b_filled : Ss := .cons (.asg 3 (.tup (.nil))) (.cons (.for_ (.t [4, 5]) (.seq (.var 0)) (.cons (.if_ (.cmp .eq (.var 4) (.gi "LITERAL" (-1))) (.cons (.asg 3 (.bin .add (.var 3) (.tup (.cons (.var 5) (.nil))))) (.nil)) (.cons (.asg 3 (.bin .add (.var 3) (.call 11 (.cons (.var 4) (.cons (.ife (.cmp .eq (.var 5) (.int (0))) (.var 2) (.ix (.var 1) (.var 5))) (.nil)))))) (.nil))) (.nil))) (.cons (.ret (.var 3)) (.nil)))
def f_filled : Df := ⟨3, 6, b_filled⟩
def b_told : Ss := .cons (.ret (.bin .add (.lst (.cons (.b1 .len (.var 0)) (.nil))) (.var 0))) (.nil)
def f_told : Df := ⟨1, 1, b_told⟩
def b_text_of : Ss := .cons (.asg 1 (.call 5 (.cons (.var 0) (.nil)))) (.cons (.ex (.call 0 (.cons (.cmp .notN (.var 1) (.non)) (.cons (.gi "NO_TEXT" (-24)) (.nil))))) (.cons (.ret (.var 1)) (.nil)))
def f_text_of : Df := ⟨1, 2, b_text_of⟩
def b_filled_told : Ss := .cons (.asg 3 (.call 16 (.cons (.var 2) (.nil)))) (.cons (.asg 4 (.lst (.nil))) (.cons (.tryR (.cons (.asg 4 (.call 13 (.cons (.var 3) (.nil)))) (.nil)) [1] 0 0 (-22)) (.cons (.asg 5 (.bin .add (.lst (.cons (.int (0)) (.nil))) (.slT (.bin .add (.var 1) (.bin .mul (.lst (.cons (.int (0)) (.nil))) (.gi "MOST_LEVEL_numbering" (6)))) (.gi "MOST_LEVEL_numbering" (6))))) (.cons (.ret (.call 15 (.cons (.call 7 (.cons (.call 14 (.cons (.var 4) (.cons (.var 5) (.cons (.var 0) (.nil))))) (.nil))) (.nil)))) (.nil)))))
def f_filled_told : Df := ⟨3, 6, b_filled_told⟩
def b_fill : Ss := .cons (.tryF (.cons (.ret (.call 17 (.cons (.var 0) (.cons (.var 1) (.cons (.var 2) (.nil)))))) (.nil)) 0 3 (List.range 1)) (.nil)
def f_fill : Df := ⟨3, 4, b_fill⟩
def dfs : List Df := [f_want, f_codes, f_is_point, f_length_by, f_sequence_at, f_decoded, f_bytes_of_point, f_encoded, f_letters_of, f_roman_of, f_raised, f_shaped, f_number_piece, f_pieces_of, f_filled, f_told, f_text_of, f_filled_told, f_fill]
theorem r_want_t (n : Nat) (w : W) (m : Mu) : run dfs (n + 1) 0 [.d (.bl true), w] m = .ok (.d .non) m := by
  rw [run_at (d := f_want) rfl]
  simp [runD, f_want, b_want, start, evSs, evS, evE, tst, endS]
theorem r_want_f (n : Nat) (i : Int) (m : Mu) : run dfs (n + 1) 0 [.d (.bl false), .d (.int i)] m = .exc ⟨0, [i]⟩ m := by
  rw [run_at (d := f_want) rfl]
  simp [runD, f_want, b_want, start, evSs, evS, evE, evEs, tst, endS, intF]
theorem r_codes (n : Nat) (cs : List Nat) (m : Mu) (h : cs.length ≤ line) : run dfs (n + 1) 1 [.d (.str cs)] m = .ok (.d (.tup (nD cs))) m := by
  rw [run_at (d := f_codes) rfl]
  show endS m.length (evSs (run dfs n) [some (.d (.str cs)), none] m b_codes) = _
  unfold b_codes
  rw [ev_ret, ev_b1, ev_lc (us := cs.map fun c => .d (.str [c])) (f := fun w => match w with | .d (.str [c]) => .int c | _ => .non)]
  · simp [b1R, rd, endS, endR, nD, Function.comp_def]
  · simp [evE, itemsD]
  · intro x hx
    obtain ⟨c, _, rfl⟩ := List.mem_map.mp hx
    exact ⟨_, rfl, by simp [evE], by simp [evE, wipeS, tgs, b1R]⟩
  · simpa using h
theorem r_raised (n : Nat) (cs : List Nat) (m : Mu) (h : cs.length ≤ line) (hb : ∀ c ∈ cs, 32 ≤ c) : run dfs (n + 1) 10 [.d (.tup (nD cs))] m = .ok (.d (.tup (nD (cs.map fun c => c - 32)))) m := by
  rw [run_at (d := f_raised) rfl]
  show endS m.length (evSs (run dfs n) [some (.d (.tup (nD cs))), none] m b_raised) = _
  unfold b_raised
  rw [ev_ret, ev_b1, ev_lc (us := (nD cs).map .d) (f := fun w => match w with | .d (.int i) => .int (i - 32) | _ => .non)]
  · have e : List.map (fun w => match w with | W.d (D.int i) => D.int (i - 32) | _ => D.non) ((nD cs).map W.d) = nD (cs.map fun c => c - 32) := by
      simp only [nD, List.map_map]
      apply List.map_congr_left
      intro c hc
      have := hb c hc
      show D.int ((c : Int) - 32) = D.int ((c - 32 : Nat) : Int)
      congr 1
      omega
    rw [e]
    simp [b1R, rd, endS, endR]
  · simp [evE, itemsD]
  · intro x hx
    simp only [nD, List.map_map] at hx
    obtain ⟨c, _, rfl⟩ := List.mem_map.mp hx
    exact ⟨_, rfl, by simp [evE], by simp [evE, wipeS, tgs, binR, subR]⟩
  · simpa [nD] using h
theorem r_bytes (n c : Nat) (m : Mu) : run dfs (n + 1) 6 [.d (.int c)] m = .ok (.d (.lst (nD (Kh450.encodeUtf8 c)))) m := by
  rw [run_at (d := f_bytes_of_point) rfl]
  unfold Kh450.encodeUtf8
  by_cases h1 : c < 0x80
  · have h1' : (c : Int) < 128 := by omega
    simp [runD, f_bytes_of_point, b_bytes_of_point, start, evSs, evS, evE, evEs, tst, cmpR, ordR, blR, h1, h1', allD, guardR, line, nD, endS, endR]
  · have h1' : ¬ (c : Int) < 128 := by omega
    by_cases h2 : c < 0x800
    · have h2' : (c : Int) < 2048 := by omega
      simp [runD, f_bytes_of_point, b_bytes_of_point, start, evSs, evS, evE, evEs, tst, cmpR, ordR, blR, h1, h1', h2, h2', allD, guardR, line, nD, endS, endR, binR, addR, fdivR, modR]
    · have h2' : ¬ (c : Int) < 2048 := by omega
      by_cases h3 : c < 0x10000
      · have h3' : (c : Int) < 65536 := by omega
        simp [runD, f_bytes_of_point, b_bytes_of_point, start, evSs, evS, evE, evEs, tst, cmpR, ordR, blR, h1, h1', h2, h2', h3, h3', allD, guardR, line, nD, endS, endR, binR, addR, fdivR, modR]
      · have h3' : ¬ (c : Int) < 65536 := by omega
        simp [runD, f_bytes_of_point, b_bytes_of_point, start, evSs, evS, evE, evEs, tst, cmpR, ordR, blR, h1, h1', h2, h2', h3, h3', allD, guardR, line, nD, endS, endR, binR, addR, fdivR, modR]
theorem lst_at (m : Mu) (xs : List D) : rootAt (m ++ [some ⟨.o (.lst xs), []⟩]) m.length = some (.o (.lst xs)) := by
  simp [rootAt, grAt]
theorem lst_set (m : Mu) (xs : List D) (o : Ob) : setRoot (m ++ [some ⟨.o (.lst xs), []⟩]) m.length o = m ++ [some ⟨o, []⟩] := by
  simp [setRoot, grAt]
/-- the loop of encoded -/
theorem enc_loop (n : Nat) (m : Mu) (x0 : Option W) : ∀ (cs acc : List Nat) (x2 : Option W), (acc ++ Kh450.encodeAll cs).length ≤ line →
    ∃ x2', forGo (.n 2) (fun σ m => evSs (run dfs (n + 1)) σ m (.cons (.ex (.ext (.var 1) (.call 6 (.cons (.var 2) .nil)))) .nil)) ((nD cs).map .d) [x0, some (.h m.length), x2] (m ++ [some ⟨.o (.lst (nD acc)), []⟩]) =
      .next [x0, some (.h m.length), x2'] (m ++ [some ⟨.o (.lst (nD (acc ++ Kh450.encodeAll cs))), []⟩])
  | [], acc, x2, h => ⟨x2, by simp [nD, forGo, Kh450.encodeAll]⟩
  | c :: cs, acc, x2, h => by
    have hz : (acc ++ Kh450.encodeUtf8 c ++ Kh450.encodeAll cs).length ≤ line := by
      simpa [Kh450.encodeAll, List.append_assoc] using h
    obtain ⟨x2', ih⟩ := enc_loop n m x0 cs (acc ++ Kh450.encodeUtf8 c) (some (.d (.int c))) hz
    refine ⟨x2', ?_⟩
    have hb := r_bytes n c (m ++ [some ⟨.o (.lst (nD acc)), []⟩])
    have hl : (nD acc).length + (nD (Kh450.encodeUtf8 c)).length ≤ line := by
      rw [nD_len, nD_len]
      simp at hz
      omega
    have e : evSs (run dfs (n + 1)) [x0, some (.h m.length), some (.d (.int c))] (m ++ [some ⟨.o (.lst (nD acc)), []⟩]) (.cons (.ex (.ext (.var 1) (.call 6 (.cons (.var 2) .nil)))) .nil) =
        .next [x0, some (.h m.length), some (.d (.int c))] (m ++ [some ⟨.o (.lst (nD (acc ++ Kh450.encodeUtf8 c))), []⟩]) := by
      simp [evSs, evS, evE, evEs, isLst, lst_at, hb, extR, foAt, guardR, hl, setFo, lst_set, nD_app]
    show forGo _ _ (.d (.int c) :: (nD cs).map .d) _ _ = _
    rw [forGo]
    show (evSs (run dfs (n + 1)) [x0, some (.h m.length), some (.d (.int c))] _ _).then _ = _
    rw [e, SR.then_next, ih]
    simp [Kh450.encodeAll, List.append_assoc]
theorem r_encoded (n : Nat) (cs : List Nat) (m : Mu) (h : (Kh450.encodeAll cs).length ≤ line) : run dfs (n + 2) 7 [.d (.tup (nD cs))] m = .ok (.d (.lst (nD (Kh450.encodeAll cs)))) m := by
  rw [run_at (d := f_encoded) rfl]
  obtain ⟨x2, e⟩ := enc_loop n m (some (.d (.tup (nD cs)))) cs [] none (by simpa using h)
  show endS m.length (evSs (run dfs (n + 1)) [some (.d (.tup (nD cs))), none, none] m b_encoded) = _
  have e' : forGo (.n 2) (fun σ m => evSs (run dfs (n + 1)) σ m (.cons (.ex (.ext (.var 1) (.call 6 (.cons (.var 2) .nil)))) .nil)) ((nD cs).map .d) [some (.d (.tup (nD cs))), some (.h m.length), none] (m ++ [some ⟨.o (.lst []), []⟩]) =
      .next [some (.d (.tup (nD cs))), some (.h m.length), x2] (m ++ [some ⟨.o (.lst (nD (Kh450.encodeAll cs))), []⟩]) := by simpa [nD] using e
  unfold b_encoded
  rw [evSs]
  have e1 : evS (run dfs (n + 1)) [some (.d (.tup (nD cs))), none, none] m (.asg 1 (.lstM .nil)) = .next [some (.d (.tup (nD cs))), some (.h m.length), none] (m ++ [some ⟨.o (.lst []), []⟩]) := by
    simp [evS, evE, evEs, allD, guardR, newR]
  rw [e1, SR.then_next, evSs]
  have e2 : evS (run dfs (n + 1)) [some (.d (.tup (nD cs))), some (.h m.length), none] (m ++ [some ⟨.o (.lst []), []⟩]) (.for_ (.n 2) (.seq (.var 0)) (.cons (.ex (.ext (.var 1) (.call 6 (.cons (.var 2) .nil)))) .nil)) =
      .next [some (.d (.tup (nD cs))), some (.h m.length), x2] (m ++ [some ⟨.o (.lst (nD (Kh450.encodeAll cs))), []⟩]) := by
    rw [evS]
    have e3 : evIt (run dfs (n + 1)) [some (.d (.tup (nD cs))), some (.h m.length), none] (m ++ [some ⟨.o (.lst []), []⟩]) (.seq (.var 0)) = .ok ((nD cs).map .d) (m ++ [some ⟨.o (.lst []), []⟩]) := by
      simp [evIt, evE, itemsD]
    rw [e3, Res.toS_ok, e']
  rw [e2, SR.then_next, ev_ret]
  simp [evE, fzR, grAt, Gr.data, Fo.data, endS, endR]
theorem r_told (n : Nat) (l : List Nat) (m : Mu) (h : l.length + 1 ≤ line) : run dfs (n + 1) 15 [.d (.lst (nD l))] m = .ok (.d (.lst (.int l.length :: nD l))) m := by
  rw [run_at (d := f_told) rfl]
  have h1 : l.length ≤ line := by omega
  have h2 : 1 + l.length ≤ line := by omega
  have h3 : (1 : Nat) ≤ line := by omega
  simp [runD, f_told, b_told, start, evSs, evS, evE, evEs, items, rd, guardR, b1R, nD_len, h1, h2, h3, allD, binR, addR, endS, endR]
/-! ### letters -/
theorem let_loop (n : Nat) (m : Mu) : ∀ (k : Nat) (x : Nat) (acc : List Nat) (d2 : Option W) (fuel j : Nat), x < 26 ^ k → k ≤ j → k + 1 ≤ fuel → acc.length + k ≤ 1000 →
    ∃ x0 x2, whGo (fun σ m => tst (evE (run dfs n) σ m (.cmp .gt (.var 0) (.int 0)))) (fun σ m => evSs (run dfs n) σ m (.cons (.asgT [0, 2] (.dm (.bin .sub (.var 0) (.int 1)) (.gi "LETTERS" 26))) (.cons (.asg 1 (.bin .add (.tup (.cons (.bin .add (.int 97) (.var 2)) .nil)) (.var 1))) .nil))) fuel
      [some (.d (.int x)), some (.d (.tup (nD acc))), d2] m = .next [x0, some (.d (.tup (nD (Kh454.lettersLoop j x ++ acc)))), x2] m
  | 0, x, acc, d2, fuel, j, hx, hj, hf, ha => by
    have : x = 0 := by simpa using hx
    subst this
    cases fuel with
    | zero => omega
    | succ fuel =>
      refine ⟨some (.d (.int 0)), d2, ?_⟩
      have e : Kh454.lettersLoop j 0 = [] := by cases j <;> simp [Kh454.lettersLoop]
      rw [e]
      simp [whGo, evE, tst, cmpR, ordR, blR]
  | k + 1, x, acc, d2, fuel, j, hx, hj, hf, ha => by
    cases fuel with
    | zero => omega
    | succ fuel =>
      cases j with
      | zero => omega
      | succ j =>
        by_cases h0 : x = 0
        · subst h0
          refine ⟨some (.d (.int 0)), d2, ?_⟩
          simp [Kh454.lettersLoop, whGo, evE, tst, cmpR, ordR, blR]
        · have hpos : (0 : Int) < x := by omega
          have hlt : (x - 1) / 26 < 26 ^ k := by
            rw [Nat.div_lt_iff_lt_mul (by decide)]
            rw [Nat.pow_succ] at hx
            omega
          obtain ⟨x0, x2, ih⟩ := let_loop n m k ((x - 1) / 26) ((97 + (x - 1) % 26) :: acc) (some (.d (.int (((x - 1) % 26 : Nat) : Int)))) fuel j hlt (by omega) (by omega) (by simp; omega)
          refine ⟨x0, x2, ?_⟩
          have q1 : ((x : Int) - 1) / 26 = (((x - 1) / 26 : Nat) : Int) := by omega
          have q2 : ((x : Int) - 1) % 26 = (((x - 1) % 26 : Nat) : Int) := by omega
          have hl : 1 + (nD acc).length ≤ line := by rw [nD_len]; simp [line]; omega
          have e : evSs (run dfs n) [some (.d (.int x)), some (.d (.tup (nD acc))), d2] m (.cons (.asgT [0, 2] (.dm (.bin .sub (.var 0) (.int 1)) (.gi "LETTERS" 26))) (.cons (.asg 1 (.bin .add (.tup (.cons (.bin .add (.int 97) (.var 2)) .nil)) (.var 1))) .nil)) =
              .next [some (.d (.int (((x - 1) / 26 : Nat) : Int))), some (.d (.tup (nD ((97 + (x - 1) % 26) :: acc)))), some (.d (.int (((x - 1) % 26 : Nat) : Int)))] m := by
            have hl' : 1 + acc.length ≤ 16777216 := by omega
            simp [evSs, evS, evE, evEs, binR, subR, addR, dmR, guardR, bindG, allD, hl', q1, q2, nD, line]
          rw [whGo]
          have ec : tst (evE (run dfs n) [some (.d (.int x)), some (.d (.tup (nD acc))), d2] m (.cmp .gt (.var 0) (.int 0))) = .ok true m := by
            simp [evE, tst, cmpR, ordR, blR, hpos]
            omega
          rw [ec, Res.toS_ok, if_pos rfl, e, SR.then_next, ih]
          simp [Kh454.lettersLoop, h0, List.append_assoc]
theorem r_letters (n x : Nat) (m : Mu) (h : x < 26 ^ 40) : run dfs (n + 1) 8 [.d (.int x)] m = .ok (.d (.tup (nD (Kh454.letters x)))) m := by
  rw [run_at (d := f_letters_of) rfl]
  obtain ⟨x0, x2, e⟩ := let_loop n m 40 x [] none turns 40 h (Nat.le_refl _) (by decide) (by decide)
  show endS m.length (evSs (run dfs n) [some (.d (.int x)), none, none] m b_letters_of) = _
  unfold b_letters_of
  rw [evSs]
  have e1 : evS (run dfs n) [some (.d (.int x)), none, none] m (.asg 1 (.tup .nil)) = .next [some (.d (.int x)), some (.d (.tup (nD []))), none] m := by
    simp [evS, evE, evEs, allD, guardR, nD]
  rw [e1, SR.then_next, evSs, evS, e, SR.then_next, ev_ret]
  simp [evE, endS, endR, Kh454.letters]
/-! ### roman -/
def romL : List (Nat × List Nat) → Nat → List Nat
  | [], _ => []
  | p :: r, n => (List.replicate (n / p.1) p.2).flatten ++ romL r (n % p.1)
def okR : List (Nat × List Nat) → Nat → Bool
  | [], _ => true
  | p :: r, B => decide (0 < p.1) && decide (p.1 < 1073741824) && decide (p.2.length ≤ 2) && decide (B / p.1 < 1000) && okR r (p.1 - 1)
def pairsD (l : List (Nat × List Nat)) : List D := l.map fun p => .tup [.int (p.1 : Int), .str p.2]
theorem rom_loop (n : Nat) (m : Mu) : ∀ (l : List (Nat × List Nat)) (x : Nat) (acc : List Nat) (d2 d3 : Option W) (B : Nat), x ≤ B → okR l B = true → acc.length + 2000 * l.length ≤ 100000 →
    ∃ x0 x2 x3, forGo (.t [2, 3]) (fun σ m => evSs (run dfs (n + 1)) σ m (.cons (.asg 1 (.bin .add (.var 1) (.bin .mul (.call 1 (.cons (.var 3) .nil)) (.bin .fdiv (.var 0) (.var 2))))) (.cons (.asg 0 (.bin .mod (.var 0) (.var 2))) .nil))) ((pairsD l).map toK)
      [some (.d (.int x)), some (.d (.tup (nD acc))), d2, d3] m = .next [x0, some (.d (.tup (nD (acc ++ romL l x)))), x2, x3] m
  | [], x, acc, d2, d3, B, hx, hl, ha => ⟨some (.d (.int x)), d2, d3, by simp [pairsD, forGo, romL]⟩
  | p :: l, x, acc, d2, d3, B, hx, hl, ha => by
    unfold okR at hl
    simp only [Bool.and_eq_true, decide_eq_true_eq] at hl
    obtain ⟨⟨⟨⟨h1, h2⟩, h3⟩, h4'⟩, hr⟩ := hl
    have h4 : x / p.1 < 1000 := Nat.lt_of_le_of_lt (Nat.div_le_div_right hx) h4'
    have hm : x % p.1 ≤ p.1 - 1 := by have := Nat.mod_lt x h1; omega
    have hlen : (acc ++ (List.replicate (x / p.1) p.2).flatten).length ≤ acc.length + 2000 := by
      have : ((List.replicate (x / p.1) p.2).flatten).length = x / p.1 * p.2.length := by simp
      rw [List.length_append, this]
      have : x / p.1 * p.2.length ≤ 1000 * 2 := Nat.mul_le_mul (by omega) h3
      omega
    obtain ⟨x0, x2, x3, ih⟩ := rom_loop n m l (x % p.1) (acc ++ (List.replicate (x / p.1) p.2).flatten) (some (.d (.int p.1))) (some (.d (.str p.2))) (p.1 - 1) hm hr (by simp only [List.length_cons] at ha; omega)
    refine ⟨x0, x2, x3, ?_⟩
    have hc := r_codes n p.2 m (by simp [line]; omega)
    have k1 : ((x : Int) / (p.1 : Int)) = ((x / p.1 : Nat) : Int) := by simp
    have k2 : ((x : Int) % (p.1 : Int)) = ((x % p.1 : Nat) : Int) := by simp
    have rep : ∀ k, (List.replicate k (nD p.2)).flatten = nD (List.replicate k p.2).flatten := by
      intro k
      induction k with
      | zero => rfl
      | succ k ih => rw [List.replicate_succ, List.flatten_cons, ih, List.replicate_succ, List.flatten_cons, nD_app]
    have hbig : (nD acc).length + (nD (List.replicate (x / p.1) p.2).flatten).length ≤ line := by
      rw [nD_len, nD_len, ← List.length_append]
      simp only [List.length_cons] at ha
      have : line = 16777216 := rfl
      omega
    have e : evSs (run dfs (n + 1)) [some (.d (.int x)), some (.d (.tup (nD acc))), some (.d (.int p.1)), some (.d (.str p.2))] m (.cons (.asg 1 (.bin .add (.var 1) (.bin .mul (.call 1 (.cons (.var 3) .nil)) (.bin .fdiv (.var 0) (.var 2))))) (.cons (.asg 0 (.bin .mod (.var 0) (.var 2))) .nil)) =
        .next [some (.d (.int ((x % p.1 : Nat) : Int))), some (.d (.tup (nD (acc ++ (List.replicate (x / p.1) p.2).flatten)))), some (.d (.int p.1)), some (.d (.str p.2))] m := by
      have g1 : (0 : Int) < p.1 := by omega
      have g2 : (p.1 : Int) < 1073741824 := by omega
      have g3 : (0 : Int) ≤ ((x / p.1 : Nat) : Int) := Int.natCast_nonneg _
      have g4 : ((x / p.1 : Nat) : Int) < 1000 := by exact_mod_cast h4
      have g5 : (nD p.2).length ≤ 1000 := by rw [nD_len]; omega
      have f1 : fdivR m (.d (.int x)) (.d (.int p.1)) = .ok (.d (.int ((x / p.1 : Nat) : Int))) m := by
        show guardR (decide ((0 : Int) < p.1) && decide ((p.1 : Int) < 1073741824)) (Res.ok (W.d (D.int ((x : Int) / p.1))) m) = _
        rw [guardR_of (by rw [decide_eq_true g1, decide_eq_true g2]; rfl), k1]
      have f2 : mulR m (.d (.tup (nD p.2))) (.d (.int ((x / p.1 : Nat) : Int))) = .ok (.d (.tup (nD (List.replicate (x / p.1) p.2).flatten))) m := by
        show guardR (decide ((0 : Int) ≤ ((x / p.1 : Nat) : Int)) && decide (((x / p.1 : Nat) : Int) < 1000) && decide ((nD p.2).length ≤ 1000)) (Res.ok (W.d (D.tup (List.replicate (((x / p.1 : Nat) : Int)).toNat (nD p.2)).flatten)) m) = _
        rw [guardR_of (by simp only [decide_eq_true g3, decide_eq_true g4, decide_eq_true g5, Bool.and_self]), Int.toNat_natCast, rep]
      have f3 : addR m (.d (.tup (nD acc))) (.d (.tup (nD (List.replicate (x / p.1) p.2).flatten))) = .ok (.d (.tup (nD (acc ++ (List.replicate (x / p.1) p.2).flatten)))) m := by
        show guardR (decide ((nD acc).length + (nD (List.replicate (x / p.1) p.2).flatten).length ≤ line)) (Res.ok (W.d (D.tup (nD acc ++ nD (List.replicate (x / p.1) p.2).flatten))) m) = _
        rw [guardR_of (decide_eq_true hbig), nD_app]
      have f4 : modR m (.d (.int x)) (.d (.int p.1)) = .ok (.d (.int ((x % p.1 : Nat) : Int))) m := by
        show guardR (decide ((0 : Int) < p.1)) (Res.ok (W.d (D.int ((x : Int) % p.1))) m) = _
        rw [guardR_of (decide_eq_true g1), k2]
      simp only [evSs, evS, evE, evEs, List.getElem?_cons_zero, List.getElem?_cons_succ, Res.bind_ok, hc, binR, f1, f2, f3, Res.toS_ok, SR.then_next, List.set_cons_zero, List.set_cons_succ, f4]
    show forGo _ _ (W.kt (.tup [.int (p.1 : Int), .str p.2]) :: (pairsD l).map toK) _ _ = _
    rw [forGo]
    show (evSs (run dfs (n + 1)) [some (.d (.int x)), some (.d (.tup (nD acc))), some (.d (.int p.1)), some (.d (.str p.2))] m _).then _ = _
    rw [e, SR.then_next, ih]
    simp [romL, List.append_assoc]
def romT : List (Nat × List Nat) := [(1000, [109]), (900, [99, 109]), (500, [100]), (400, [99, 100]), (100, [99]), (90, [120, 99]), (50, [108]), (40, [120, 108]), (10, [120]), (9, [105, 120]), (5, [118]), (4, [105, 118]), (1, [105])]
theorem rom_spec (l : List (Nat × String)) (x : Nat) : Kh454.romanLoop l x = romL (l.map fun p => (p.1, Kh450.codesOf p.2)) x := by
  induction l generalizing x with
  | nil => rfl
  | cons p l ih => simp [Kh454.romanLoop, romL, ih]
theorem roman_eq (x : Nat) : Kh454.roman x = romL romT x := by
  unfold Kh454.roman
  rw [rom_spec]
  rfl
theorem r_roman (n x : Nat) (m : Mu) (h : x ≤ 3999) : run dfs (n + 2) 9 [.d (.int x)] m = .ok (.d (.tup (nD (Kh454.roman x)))) m := by
  rw [run_at (d := f_roman_of) rfl]
  obtain ⟨x0, x2, x3, e⟩ := rom_loop n m romT x [] none none 3999 h (by decide) (by decide)
  show endS m.length (evSs (run dfs (n + 1)) [some (.d (.int x)), none, none, none] m b_roman_of) = _
  unfold b_roman_of
  rw [evSs]
  have e1 : evS (run dfs (n + 1)) [some (.d (.int x)), none, none, none] m (.asg 1 (.tup .nil)) = .next [some (.d (.int x)), some (.d (.tup (nD []))), none, none] m := by
    simp [evS, evE, evEs, allD, guardR, nD]
  rw [e1, SR.then_next, evSs, evS]
  have e3 : evIt (run dfs (n + 1)) [some (.d (.int x)), some (.d (.tup (nD []))), none, none] m (.seq (.gt "ROMAN" t_ROMAN)) = .ok ((pairsD romT).map toK) m := by
    simp only [evIt, evE, Res.bind_ok]
    rfl
  rw [e3, Res.toS_ok, e, SR.then_next, ev_ret]
  simp [evE, endS, endR, roman_eq]
/-! ### bounds -/
theorem let_bnd : ∀ (j x : Nat), (Kh454.lettersLoop j x).length ≤ j ∧ ∀ c ∈ Kh454.lettersLoop j x, 97 ≤ c ∧ c ≤ 122
  | 0, x => by simp [Kh454.lettersLoop]
  | j + 1, x => by
    obtain ⟨h1, h2⟩ := let_bnd j ((x - 1) / 26)
    unfold Kh454.lettersLoop
    by_cases h : x = 0
    · simp [h]
    · rw [if_neg h]
      refine ⟨by simp; omega, fun c hc => ?_⟩
      rcases List.mem_append.mp hc with q | q
      · exact h2 c q
      · simp at q; omega
theorem rom_bnd : ∀ (l : List (Nat × List Nat)) (B x : Nat), x ≤ B → okR l B = true → (l.all fun p => p.2.all fun c => decide (97 ≤ c) && decide (c ≤ 122)) = true → (romL l x).length ≤ 2000 * l.length ∧ ∀ c ∈ romL l x, 97 ≤ c ∧ c ≤ 122
  | [], B, x, _, _, _ => by simp [romL]
  | p :: l, B, x, hx, hl, hc => by
    unfold okR at hl
    simp only [Bool.and_eq_true, decide_eq_true_eq] at hl
    obtain ⟨⟨⟨⟨h1, h2⟩, h3⟩, h4'⟩, hr⟩ := hl
    have h4 : x / p.1 < 1000 := Nat.lt_of_le_of_lt (Nat.div_le_div_right hx) h4'
    have hm : x % p.1 ≤ p.1 - 1 := by have := Nat.mod_lt x h1; omega
    rw [List.all_cons, Bool.and_eq_true] at hc
    obtain ⟨k1, k2⟩ := rom_bnd l (p.1 - 1) (x % p.1) hm hr hc.2
    unfold romL
    refine ⟨?_, fun c hcm => ?_⟩
    · have e : ((List.replicate (x / p.1) p.2).flatten).length = x / p.1 * p.2.length := by simp
      rw [List.length_append, e, List.length_cons]
      have : x / p.1 * p.2.length ≤ 1000 * 2 := Nat.mul_le_mul (by omega) h3
      omega
    · rcases List.mem_append.mp hcm with q | q
      · obtain ⟨r, hr1, hr2⟩ := List.mem_flatten.mp q
        have := (List.mem_replicate.mp hr1).2
        subst this
        have := List.all_eq_true.mp hc.1 c hr2
        simpa using this
      · exact k2 c q
theorem up_eq {t : List Nat} (h : ∀ c ∈ t, 97 ≤ c ∧ c ≤ 122) : Kh454.upper t = t.map fun c => c - 32 := by
  unfold Kh454.upper
  apply List.map_congr_left
  intro c hc
  have := h c hc
  have e : Kh450.isLower c = true := by
    unfold Kh450.isLower
    simp
    omega
  rw [if_pos e]
/-- decimal digits -/
theorem dch : ∀ k, k < 10 → (Nat.digitChar k).toNat = 48 + k := by decide
theorem dig_loop : ∀ (j x : Nat), x < 10 ^ j → digits x = Kh450.writeNatLoop (j + 1) x
  | 0, x, h => by
    have : x = 0 := by simpa using h
    subst this
    rfl
  | j + 1, x, h => by
    unfold Kh450.writeNatLoop
    by_cases hx : x < 10
    · rw [if_pos hx]
      unfold digits
      rw [Nat.toDigits_of_lt_base hx]
      simp [dch x hx]
    · rw [if_neg hx]
      have ih := dig_loop j (x / 10) (by rw [Nat.pow_succ] at h; omega)
      unfold digits at ih ⊢
      rw [Nat.toDigits_of_base_le (by decide) (by omega), List.map_append, ih]
      simp [dch (x % 10) (Nat.mod_lt _ (by decide))]
theorem dig_eq (x : Nat) (h : x < 10 ^ 19) : strI (x : Int) = Kh450.writeNat x := by
  show digits x = _
  exact dig_loop 19 x h
theorem wr_bnd : ∀ (j x : Nat), (Kh450.writeNatLoop j x).length ≤ j ∧ ∀ c ∈ Kh450.writeNatLoop j x, c < 128
  | 0, x => by simp [Kh450.writeNatLoop]
  | j + 1, x => by
    obtain ⟨h1, h2⟩ := wr_bnd j (x / 10)
    unfold Kh450.writeNatLoop
    by_cases h : x < 10
    · rw [if_pos h]; simp; omega
    · rw [if_neg h]
      refine ⟨by simp; omega, fun c hc => ?_⟩
      rcases List.mem_append.mp hc with q | q
      · exact h2 c q
      · simp at q; omega
theorem r_str (n x : Nat) (m : Mu) (h : x < 10 ^ 19) (s0 : List (Option W)) : run dfs (n + 1) 1 [.d (.str (strI x))] m = .ok (.d (.tup (nD (Kh450.writeNat x)))) m := by
  rw [dig_eq x h]
  exact r_codes n _ m (by have := (wr_bnd 20 x).1; have e : (Kh450.writeNat x) = Kh450.writeNatLoop 20 x := rfl; rw [e]; simp [line]; omega)
def shp : Nat → Option Kh454.Shape
  | 0 => some .arabic
  | 1 => some .upperLetters
  | 2 => some .lowerLetters
  | 3 => some .upperRoman
  | 4 => some .lowerRoman
  | _ => none
theorem let_ok (x : Nat) : (Kh454.letters x).length ≤ 40 ∧ ∀ c ∈ Kh454.letters x, 97 ≤ c ∧ c ≤ 122 := let_bnd 40 x
theorem rom_ok (x : Nat) (h : x ≤ 3999) : (Kh454.roman x).length ≤ 100000 ∧ ∀ c ∈ Kh454.roman x, 97 ≤ c ∧ c ≤ 122 := by
  rw [roman_eq]
  have := rom_bnd romT 3999 x h (by decide) (by decide)
  exact ⟨Nat.le_trans this.1 (by decide), this.2⟩
theorem r_shaped (n k x : Nat) (m : Mu) (sh : Kh454.Shape) (hs : shp k = some sh) (hx : x < 10 ^ 19) : run dfs (n + 3) 11 [.d (.int k), .d (.int x)] m = .ok (.d (.tup (nD (Kh454.show_ sh x)))) m := by
  rw [run_at (d := f_shaped) rfl]
  have hs1 : decide ((x : Int).natAbs < 2 ^ 1919) = true := by
    apply decide_eq_true
    have : (x : Int).natAbs = x := by simp
    rw [this]
    exact Nat.lt_of_lt_of_le hx (Nat.le_trans (by decide : 10 ^ 19 ≤ 2 ^ 64) (Nat.pow_le_pow_right (by decide) (by decide)))
  have hb : b1R m .str (.d (.int x)) = .ok (.d (.str (strI x))) m := guardR_of hs1 _
  have hstr := r_str (n + 1) x m hx []
  have hup : ∀ (t : List Nat), t.length ≤ 100000 → (∀ c ∈ t, 97 ≤ c ∧ c ≤ 122) → run dfs (n + 2) 10 [.d (.tup (nD t))] m = .ok (.d (.tup (nD (Kh454.upper t)))) m := fun t h1 h2 => by
    rw [up_eq h2]
    exact r_raised (n + 1) t m (by simp [line]; omega) fun c hc => by have := h2 c hc; omega
  have hlet := r_letters (n + 1) x m (Nat.lt_of_lt_of_le hx (by decide))
  have lb := let_ok x
  have hupl := hup _ (by have := lb.1; omega) lb.2
  show endS m.length (evSs (run dfs (n + 2)) [some (.d (.int k)), some (.d (.int x)), none] m b_shaped) = _
  by_cases hx0 : x = 0
  · subst hx0
    match k, hs with
    | 0, hs => cases hs; simp [b_shaped, evSs, evS, evE, evEs, tst, cmpR, ordR, blR, inR, dicOf, inSeq, rd, eqR, D.plain, D.plains, D.depth, D.depths, D.eqv, allD, guardR, line, endS, endR, Kh454.show_] at hb hstr ⊢; simp [hb, hstr, endR]
    | 1, hs => cases hs; simp [b_shaped, evSs, evS, evE, evEs, tst, cmpR, ordR, blR, inR, dicOf, inSeq, rd, eqR, D.plain, D.plains, D.depth, D.depths, D.eqv, allD, guardR, line, endS, endR, Kh454.show_] at hb hstr ⊢; simp [hb, hstr, endR]
    | 2, hs => cases hs; simp [b_shaped, evSs, evS, evE, evEs, tst, cmpR, ordR, blR, inR, dicOf, inSeq, rd, eqR, D.plain, D.plains, D.depth, D.depths, D.eqv, allD, guardR, line, endS, endR, Kh454.show_] at hb hstr ⊢; simp [hb, hstr, endR]
    | 3, hs => cases hs; simp [b_shaped, evSs, evS, evE, evEs, tst, cmpR, ordR, blR, inR, dicOf, inSeq, rd, eqR, D.plain, D.plains, D.depth, D.depths, D.eqv, allD, guardR, line, endS, endR, Kh454.show_] at hb hstr ⊢; simp [hb, hstr, endR]
    | 4, hs => cases hs; simp [b_shaped, evSs, evS, evE, evEs, tst, cmpR, ordR, blR, inR, dicOf, inSeq, rd, eqR, D.plain, D.plains, D.depth, D.depths, D.eqv, allD, guardR, line, endS, endR, Kh454.show_] at hb hstr ⊢; simp [hb, hstr, endR]
    | k + 5, hs => cases hs
  · have hpos : (0 : Int) < x := by omega
    have hpos' : 0 < x := by omega
    by_cases h3 : x ≤ 3999
    · have h3' : (x : Int) ≤ 3999 := by omega
      have h4 : ¬ 3999 < x := by omega
      have hrom := r_roman n x m h3
      have rb := rom_ok x h3
      have hupr := hup _ rb.1 rb.2
      match k, hs with
      | 0, hs => cases hs; simp [b_shaped, evSs, evS, evE, evEs, tst, cmpR, ordR, blR, inR, dicOf, inSeq, rd, eqR, D.plain, D.plains, D.depth, D.depths, D.eqv, allD, guardR, line, endS, endR, Kh454.show_, hb, hstr]
      | 1, hs => cases hs; simp [b_shaped, evSs, evS, evE, evEs, tst, cmpR, ordR, blR, inR, dicOf, inSeq, rd, eqR, D.plain, D.plains, D.depth, D.depths, D.eqv, allD, guardR, line, endS, endR, Kh454.show_, hb, hstr, hpos, hpos', hx0, hlet, hupl]
      | 2, hs => cases hs; simp [b_shaped, evSs, evS, evE, evEs, tst, cmpR, ordR, blR, inR, dicOf, inSeq, rd, eqR, D.plain, D.plains, D.depth, D.depths, D.eqv, allD, guardR, line, endS, endR, Kh454.show_, hb, hstr, hpos, hpos', hx0, hlet, hupl]
      | 3, hs => cases hs; simp [b_shaped, evSs, evS, evE, evEs, tst, cmpR, ordR, blR, inR, dicOf, inSeq, rd, eqR, D.plain, D.plains, D.depth, D.depths, D.eqv, allD, guardR, line, endS, endR, Kh454.show_, hb, hstr, hpos, hpos', hx0, h3, h3', h4, hrom, hupr]
      | 4, hs => cases hs; simp [b_shaped, evSs, evS, evE, evEs, tst, cmpR, ordR, blR, inR, dicOf, inSeq, rd, eqR, D.plain, D.plains, D.depth, D.depths, D.eqv, allD, guardR, line, endS, endR, Kh454.show_, hb, hstr, hpos, hpos', hx0, h3, h3', h4, hrom, hupr]
      | k + 5, hs => cases hs
    · have h3' : ¬ (x : Int) ≤ 3999 := by omega
      have h4 : 3999 < x := by omega
      match k, hs with
      | 0, hs => cases hs; simp [b_shaped, evSs, evS, evE, evEs, tst, cmpR, ordR, blR, inR, dicOf, inSeq, rd, eqR, D.plain, D.plains, D.depth, D.depths, D.eqv, allD, guardR, line, endS, endR, Kh454.show_, hb, hstr]
      | 1, hs => cases hs; simp [b_shaped, evSs, evS, evE, evEs, tst, cmpR, ordR, blR, inR, dicOf, inSeq, rd, eqR, D.plain, D.plains, D.depth, D.depths, D.eqv, allD, guardR, line, endS, endR, Kh454.show_, hb, hstr, hpos, hpos', hx0, hlet, hupl]
      | 2, hs => cases hs; simp [b_shaped, evSs, evS, evE, evEs, tst, cmpR, ordR, blR, inR, dicOf, inSeq, rd, eqR, D.plain, D.plains, D.depth, D.depths, D.eqv, allD, guardR, line, endS, endR, Kh454.show_, hb, hstr, hpos, hpos', hx0, hlet, hupl]
      | 3, hs => cases hs; simp [b_shaped, evSs, evS, evE, evEs, tst, cmpR, ordR, blR, inR, dicOf, inSeq, rd, eqR, D.plain, D.plains, D.depth, D.depths, D.eqv, allD, guardR, line, endS, endR, Kh454.show_, hb, hstr, hpos, hpos', hx0, h3, h3', h4]
      | 4, hs => cases hs; simp [b_shaped, evSs, evS, evE, evEs, tst, cmpR, ordR, blR, inR, dicOf, inSeq, rd, eqR, D.plain, D.plains, D.depth, D.depths, D.eqv, allD, guardR, line, endS, endR, Kh454.show_, hb, hstr, hpos, hpos', hx0, h3, h3', h4]
      | k + 5, hs => cases hs
theorem enc_len : ∀ t : List Nat, (Kh450.encodeAll t).length ≤ 4 * t.length
  | [] => by simp [Kh450.encodeAll]
  | c :: t => by
    have ih := enc_len t
    have h : (Kh450.encodeUtf8 c).length ≤ 4 := by
      unfold Kh450.encodeUtf8
      split
      · simp
      · split
        · simp
        · split <;> simp
    have e : Kh450.encodeAll (c :: t) = Kh450.encodeUtf8 c ++ Kh450.encodeAll t := by simp [Kh450.encodeAll]
    rw [e, List.length_append, List.length_cons]
    omega
theorem show_len (sh : Kh454.Shape) (x : Nat) : (Kh454.show_ sh x).length ≤ 100000 := by
  have h1 : (Kh450.writeNat x).length ≤ 100000 := Nat.le_trans (wr_bnd 20 x).1 (by decide)
  have h2 : (Kh454.letters x).length ≤ 100000 := Nat.le_trans (let_ok x).1 (by decide)
  have up : ∀ t, (Kh454.upper t).length = t.length := fun t => by simp [Kh454.upper]
  cases sh with
  | arabic => exact h1
  | lowerLetters => unfold Kh454.show_; dsimp only; split <;> assumption
  | upperLetters => unfold Kh454.show_; dsimp only; split <;> (first | assumption | (rw [up]; assumption))
  | lowerRoman =>
    unfold Kh454.show_; dsimp only; split
    · assumption
    · rename_i h; exact (rom_ok x (by omega)).1
  | upperRoman =>
    unfold Kh454.show_; dsimp only; split
    · assumption
    · rename_i h; rw [up]; exact (rom_ok x (by omega)).1

end S09P
end Cn

namespace Cn
namespace S09P
theorem r_is_point (n c : Nat) (m : Mu) : run dfs (n + 1) 2 [.d (.int c)] m = .ok (.d (.bl (Kh450.isScalar c))) m := by
  rw [run_at (d := f_is_point) rfl]
  have h0 : (0 : Int) ≤ c := by omega
  by_cases h1 : (c : Int) ≤ 1114111
  · by_cases h2 : (55296 : Int) ≤ c
    · by_cases h3 : (c : Int) ≤ 57343
      · have e : Kh450.isScalar c = false := by simp [Kh450.isScalar]; omega
        simp [runD, f_is_point, b_is_point, start, evSs, evS, evE, evEs, cmpR, ordR, blR, h0, h1, h2, h3, endS, endR, e]
      · have e : Kh450.isScalar c = true := by simp [Kh450.isScalar]; omega
        simp [runD, f_is_point, b_is_point, start, evSs, evS, evE, evEs, cmpR, ordR, blR, h0, h1, h2, h3, endS, endR, e]
    · have e : Kh450.isScalar c = true := by simp [Kh450.isScalar]; omega
      simp [runD, f_is_point, b_is_point, start, evSs, evS, evE, evEs, cmpR, ordR, blR, h0, h1, h2, endS, endR, e]
  · have e : Kh450.isScalar c = false := by simp [Kh450.isScalar]; omega
    simp [runD, f_is_point, b_is_point, start, evSs, evS, evE, evEs, cmpR, ordR, blR, h0, h1, endS, endR, e]
def lenBy (b : Nat) : Nat := if 194 ≤ b ∧ b ≤ 223 then 2 else if 224 ≤ b ∧ b ≤ 239 then 3 else if 240 ≤ b ∧ b ≤ 244 then 4 else 0
theorem r_length_by (n b : Nat) (m : Mu) : run dfs (n + 1) 3 [.d (.int b)] m = .ok (.d (.int (lenBy b))) m := by
  rw [run_at (d := f_length_by) rfl]
  unfold lenBy
  by_cases h1 : (194 : Int) ≤ b <;> by_cases h2 : (b : Int) ≤ 223 <;> by_cases h3 : (224 : Int) ≤ b <;> by_cases h4 : (b : Int) ≤ 239 <;> by_cases h5 : (240 : Int) ≤ b <;> by_cases h6 : (b : Int) ≤ 244 <;>
    first
    | omega
    | (have n1 : (194 ≤ b) = ((194 : Int) ≤ b) := by simp only [eq_iff_iff]; omega
       have n2 : (b ≤ 223) = ((b : Int) ≤ 223) := by simp only [eq_iff_iff]; omega
       have n3 : (224 ≤ b) = ((224 : Int) ≤ b) := by simp only [eq_iff_iff]; omega
       have n4 : (b ≤ 239) = ((b : Int) ≤ 239) := by simp only [eq_iff_iff]; omega
       have n5 : (240 ≤ b) = ((240 : Int) ≤ b) := by simp only [eq_iff_iff]; omega
       have n6 : (b ≤ 244) = ((b : Int) ≤ 244) := by simp only [eq_iff_iff]; omega
       simp only [n1, n2, n3, n4, n5, n6]
       simp [runD, f_length_by, b_length_by, start, tst, evSs, evS, evE, evEs, cmpR, ordR, blR, h1, h2, h3, h4, h5, h6, endS, endR])
end S09P
end Cn

namespace Cn
theorem atZ_mid {α : Type} (p : List α) (a : α) (r : List α) : atZ (p ++ a :: r) (p.length : Int) = some a := by
  have h : (p.length : Int) < p.length + (r.length + 1) := by omega
  unfold atZ ixZ
  simp [h]
theorem cutZ_mid {α : Type} (p : List α) (a : α) (r : List α) (k : Nat) (hk : k ≤ r.length) : cutZ (p ++ a :: r) (some ((p.length : Int) + 1)) (some ((p.length : Int) + (k + 1 : Nat))) = r.take k := by
  unfold cutZ
  have c1 : clipZ (p ++ a :: r).length 0 (some ((p.length : Int) + 1)) = p.length + 1 := by
    unfold clipZ
    simp only [List.length_append, List.length_cons]
    split
    · omega
    · omega
  have c2 : clipZ (p ++ a :: r).length (p ++ a :: r).length (some ((p.length : Int) + (k + 1 : Nat))) = p.length + 1 + k := by
    unfold clipZ
    simp only [List.length_append, List.length_cons]
    split
    · omega
    · omega
  rw [c1, c2]
  have d : (p ++ a :: r).drop (p.length + 1) = r := by
    rw [← List.drop_drop]
    simp
  rw [d]
  congr 1
  omega
end Cn

namespace Cn
namespace S09P
/-- the loop of sequence_at -/
def seqStep (f b : Nat) : Nat := 64 * f + b - 128
abbrev seqB : Ss := .cons (.if_ (.not (.ch .le .le (.int (128)) (.var 4) (.int (191)))) (.cons (.ret (.tup (.cons (.int (0)) (.cons (.int (0)) (.nil))))) (.nil)) (.nil)) (.cons (.asg 3 (.bin .sub (.bin .add (.bin .mul (.int (64)) (.var 3)) (.var 4)) (.int (128)))) (.nil))
theorem seq_step (n : Nat) (m : Mu) (x0 x1 x2 : Option W) (f b : Nat) (h : Kh450.isContinuation b = true) : evSs (run dfs n) [x0, x1, x2, some (.d (.int f)), some (.d (.int b))] m seqB = .next [x0, x1, x2, some (.d (.int (seqStep f b : Nat))), some (.d (.int b))] m := by
  simp [Kh450.isContinuation] at h
  have h1 : (128 : Int) ≤ b := by omega
  have h2 : (b : Int) ≤ 191 := by omega
  have e : (64 : Int) * f + b - 128 = (seqStep f b : Nat) := by unfold seqStep; omega
  simp [evSs, evS, evE, evEs, tst, cmpR, ordR, blR, h1, h2, binR, addR, subR, mulR, e]
theorem seq_bad (n : Nat) (m : Mu) (x0 x1 x2 : Option W) (f b : Nat) (h : Kh450.isContinuation b = false) : evSs (run dfs n) [x0, x1, x2, some (.d (.int f)), some (.d (.int b))] m seqB = .ret (.d (.tup [.int 0, .int 0])) [x0, x1, x2, some (.d (.int f)), some (.d (.int b))] m := by
  simp [Kh450.isContinuation] at h
  by_cases h1 : (128 : Int) ≤ b
  · have h2 : ¬ (b : Int) ≤ 191 := by omega
    simp [evSs, evS, evE, evEs, tst, cmpR, ordR, blR, h1, h2, allD, guardR, line]
  · simp [evSs, evS, evE, evEs, tst, cmpR, ordR, blR, h1, allD, guardR, line]
theorem seq_loop (n : Nat) (m : Mu) (x0 x1 x2 : Option W) : ∀ (l : List Nat) (f : Nat) (x4 : Option W), ∃ σ x4',
    forGo (.n 4) (fun σ m => evSs (run dfs n) σ m seqB) ((nD l).map .d) [x0, x1, x2, some (.d (.int f)), x4] m =
      if l.all Kh450.isContinuation then .next [x0, x1, x2, some (.d (.int (l.foldl seqStep f : Nat))), x4'] m else SR.ret (.d (.tup [.int 0, .int 0])) σ m
  | [], f, x4 => ⟨[], x4, by simp [nD, forGo]⟩
  | b :: l, f, x4 => by
    cases h : Kh450.isContinuation b with
    | true =>
      obtain ⟨σ, x4', ih⟩ := seq_loop n m x0 x1 x2 l (seqStep f b) (some (.d (.int b)))
      refine ⟨σ, x4', ?_⟩
      show (evSs (run dfs n) [x0, x1, x2, some (.d (.int f)), some (.d (.int b))] m seqB).then _ = _
      rw [seq_step n m x0 x1 x2 f b h, SR.then_next]
      refine Eq.trans ih ?_
      simp [h]
    | false =>
      refine ⟨[x0, x1, x2, some (.d (.int f)), some (.d (.int b))], x4, ?_⟩
      show (evSs (run dfs n) [x0, x1, x2, some (.d (.int f)), some (.d (.int b))] m seqB).then _ = _
      rw [seq_bad n m x0 x1 x2 f b h, SR.then_ret]
      simp [h]
end S09P
end Cn

namespace Cn
namespace S09P
def base (k : Nat) : Nat := if k = 2 then 192 else if k = 3 then 224 else 240
def low (k : Nat) : Nat := if k = 2 then 128 else if k = 3 then 2048 else 65536
/-- decodeUtf8 as the code goes about it -/
def dec (a : Nat) (r : List Nat) : Option (Nat × List Nat) :=
  if a < 128 then some (a, r) else if lenBy a = 0 ∨ r.length + 1 < lenBy a then none
  else if (r.take (lenBy a - 1)).all Kh450.isContinuation then
    (if low (lenBy a) ≤ (r.take (lenBy a - 1)).foldl seqStep (a - base (lenBy a)) ∧ Kh450.isScalar ((r.take (lenBy a - 1)).foldl seqStep (a - base (lenBy a))) = true then
      some ((r.take (lenBy a - 1)).foldl seqStep (a - base (lenBy a)), r.drop (lenBy a - 1)) else none)
  else none
theorem cont_iff {b : Nat} : Kh450.isContinuation b = true ↔ 128 ≤ b ∧ b < 192 := by simp [Kh450.isContinuation]
theorem dec_eq (a : Nat) (r : List Nat) : Kh450.decodeUtf8 (a :: r) = dec a r := by
  by_cases h1 : a < 128
  · simp [Kh450.decodeUtf8, dec, h1]
  · by_cases h2 : a < 194
    · have e : lenBy a = 0 := by unfold lenBy; rw [if_neg (by omega), if_neg (by omega), if_neg (by omega)]
      simp [Kh450.decodeUtf8, dec, h1, h2, e]
    · by_cases h3 : a < 224
      · have e : lenBy a = 2 := by unfold lenBy; rw [if_pos (by omega)]
        match r with
        | [] => simp [Kh450.decodeUtf8, dec, h1, h2, h3, e]
        | b :: r =>
          cases hb : Kh450.isContinuation b with
          | false => simp [Kh450.decodeUtf8, dec, h1, h2, h3, e, hb]
          | true =>
            have q := cont_iff.mp hb
            have v : a % 32 * 64 + b % 64 = seqStep (a - 192) b := by unfold seqStep; omega
            have v2 : 128 ≤ seqStep (a - 192) b := by unfold seqStep; omega
            have v3 : Kh450.isScalar (seqStep (a - 192) b) = true := by unfold seqStep; simp [Kh450.isScalar]; omega
            simp [Kh450.decodeUtf8, dec, h1, h2, h3, e, hb, v, v2, v3, base, low]
      · by_cases h4 : a < 240
        · have e : lenBy a = 3 := by unfold lenBy; rw [if_neg (by omega), if_pos (by omega)]
          match r with
          | [] => simp [Kh450.decodeUtf8, dec, h1, h2, h3, h4, e]
          | [b] => simp [Kh450.decodeUtf8, dec, h1, h2, h3, h4, e]
          | b :: c :: r =>
            cases hb : Kh450.isContinuation b with
            | false => simp [Kh450.decodeUtf8, dec, h1, h2, h3, h4, e, hb]
            | true =>
              cases hc : Kh450.isContinuation c with
              | false => simp [Kh450.decodeUtf8, dec, h1, h2, h3, h4, e, hb, hc]
              | true =>
                have q := cont_iff.mp hb
                have q2 := cont_iff.mp hc
                have v : a % 16 * 4096 + b % 64 * 64 + c % 64 = seqStep (seqStep (a - 224) b) c := by unfold seqStep; omega
                simp [Kh450.decodeUtf8, dec, h1, h2, h3, h4, e, hb, hc, v, base, low]
                intro hq; omega
        · by_cases h5 : a < 245
          · have e : lenBy a = 4 := by unfold lenBy; rw [if_neg (by omega), if_neg (by omega), if_pos (by omega)]
            match r with
            | [] => simp [Kh450.decodeUtf8, dec, h1, h2, h3, h4, h5, e]
            | [b] => simp [Kh450.decodeUtf8, dec, h1, h2, h3, h4, h5, e]
            | [b, c] => simp [Kh450.decodeUtf8, dec, h1, h2, h3, h4, h5, e]
            | b :: c :: d :: r =>
              cases hb : Kh450.isContinuation b with
              | false => simp [Kh450.decodeUtf8, dec, h1, h2, h3, h4, h5, e, hb]
              | true =>
                cases hc : Kh450.isContinuation c with
                | false => simp [Kh450.decodeUtf8, dec, h1, h2, h3, h4, h5, e, hb, hc]
                | true =>
                  cases hd : Kh450.isContinuation d with
                  | false => simp [Kh450.decodeUtf8, dec, h1, h2, h3, h4, h5, e, hb, hc, hd]
                  | true =>
                    have q := cont_iff.mp hb
                    have q2 := cont_iff.mp hc
                    have q3 := cont_iff.mp hd
                    have v : a % 8 * 262144 + b % 64 * 4096 + c % 64 * 64 + d % 64 = seqStep (seqStep (seqStep (a - 240) b) c) d := by unfold seqStep; omega
                    simp [Kh450.decodeUtf8, dec, h1, h2, h3, h4, h5, e, hb, hc, hd, v, base, low]
                    intro hq; omega
          · have e : lenBy a = 0 := by unfold lenBy; rw [if_neg (by omega), if_neg (by omega), if_neg (by omega)]
            simp [Kh450.decodeUtf8, dec, h1, h2, h3, h4, h5, e]
end S09P
end Cn

namespace Cn
namespace S09P
theorem ix_row (m : Mu) (p : List Nat) (a : Nat) (r : List Nat) : ixR m (.d (.lst (nD (p ++ a :: r)))) (.d (.int (p.length : Int))) = .ok (.d (.int a)) m := by
  have h := atZ_mid (nD p) (D.int a) (nD r)
  rw [nD_len] at h
  have e : nD (p ++ a :: r) = nD p ++ D.int a :: nD r := by simp [nD]
  simp only [ixR, e, h]
theorem lenBy_cases (a : Nat) : lenBy a = 0 ∨ lenBy a = 2 ∨ lenBy a = 3 ∨ lenBy a = 4 := by
  unfold lenBy
  repeat (first | (split; simp) | simp)
theorem lenBy_base {a : Nat} (h : lenBy a ≠ 0) : base (lenBy a) ≤ a := by
  by_cases h1 : 194 ≤ a ∧ a ≤ 223
  · have e : lenBy a = 2 := by unfold lenBy; rw [if_pos h1]
    rw [e]; show 192 ≤ a; omega
  · by_cases h2 : 224 ≤ a ∧ a ≤ 239
    · have e : lenBy a = 3 := by unfold lenBy; rw [if_neg h1, if_pos h2]
      rw [e]; show 224 ≤ a; omega
    · by_cases h3 : 240 ≤ a ∧ a ≤ 244
      · have e : lenBy a = 4 := by unfold lenBy; rw [if_neg h1, if_neg h2, if_pos h3]
        rw [e]; show 240 ≤ a; omega
      · exact absurd (by unfold lenBy; rw [if_neg h1, if_neg h2, if_neg h3]) h
end S09P
end Cn

namespace Cn
namespace S09P
def seqW (a : Nat) (r : List Nat) : W := match dec a r with
  | none => .d (.tup [.int 0, .int 0])
  | some (c, rest) => .d (.tup [.int c, .int ((r.length + 1 - rest.length : Nat) : Int)])
theorem eq_int (m : Mu) (i j : Int) : eqR m (.d (.int i)) (.d (.int j)) = .ok (decide (i = j)) m := by
  simp [eqR, rd, D.plain, D.depth, D.eqv]
  try rfl
theorem r_seq_1 (n a : Nat) (p r : List Nat) (m : Mu) (h : a < 128) : run dfs (n + 2) 4 [.d (.lst (nD (p ++ a :: r))), .d (.int (p.length : Int))] m = .ok (seqW a r) m := by
  rw [run_at (d := f_sequence_at) rfl]
  have e := ix_row m p a r
  have h' : (a : Int) < 128 := by omega
  have h2 : r.length + 1 - r.length = 1 := by omega
  simp [runD, f_sequence_at, b_sequence_at, start, evSs, evS, evE, evEs, tst, cmpR, ordR, blR, eq_int, e, h', allD, guardR, line, endS, endR, seqW, dec, h, h2]
theorem r_seq_0 (n a : Nat) (p r : List Nat) (m : Mu) (h : ¬ a < 128) (h0 : lenBy a = 0 ∨ r.length + 1 < lenBy a) (hr : (p ++ a :: r).length ≤ line) : run dfs (n + 2) 4 [.d (.lst (nD (p ++ a :: r))), .d (.int (p.length : Int))] m = .ok (seqW a r) m := by
  rw [run_at (d := f_sequence_at) rfl]
  have e := ix_row m p a r
  have h' : ¬ (a : Int) < 128 := by omega
  have e3 := r_length_by n a m
  have hs : seqW a r = .d (.tup [.int 0, .int 0]) := by simp [seqW, dec, h, h0]
  rw [hs]
  by_cases hz : lenBy a = 0
  · simp [runD, f_sequence_at, b_sequence_at, start, evSs, evS, evE, evEs, tst, cmpR, ordR, blR, eq_int, e, e3, hz, h', allD, guardR, line, endS, endR]
  · have hz' : ¬ (lenBy a : Int) = 0 := by omega
    have hl : (p.length : Int) + (r.length + 1) < p.length + lenBy a := by omega
    simp [runD, f_sequence_at, b_sequence_at, start, evSs, evS, evE, evEs, tst, cmpR, ordR, blR, eq_int, e, e3, hz', h', allD, guardR, line, endS, endR, binR, addR, b1R, items, itemsD, rd, hl, hz, nD_len]
    have hr' : p.length + (r.length + 1) ≤ 16777216 := by simpa [line] using hr
    simp [hr', hl, endS, endR]
end S09P
end Cn

namespace Cn
namespace S09P
theorem cut_row (p r : List Nat) (a k : Nat) (hk : k ≤ r.length) : cutZ (nD (p ++ a :: r)) (some ((p.length : Int) + 1)) (some ((p.length : Int) + (k + 1 : Nat))) = nD (r.take k) := by
  have h := cutZ_mid (nD p) (D.int a) (nD r) k (by rw [nD_len]; exact hk)
  rw [nD_len] at h
  have e : nD (p ++ a :: r) = nD p ++ D.int a :: nD r := by simp [nD]
  rw [e, h]
  simp [nD]
theorem ix_base (m : Mu) (k : Nat) (h : k = 2 ∨ k = 3 ∨ k = 4) : ixR m (.d (.tup [.int 192, .int 224, .int 240])) (.d (.int ((k : Int) - 2))) = .ok (.d (.int (base k))) m := by
  rcases h with rfl | rfl | rfl <;> rfl
theorem ix_low (m : Mu) (k : Nat) (h : k = 2 ∨ k = 3 ∨ k = 4) : ixR m (.d (.tup [.int 128, .int 2048, .int 65536])) (.d (.int ((k : Int) - 2))) = .ok (.d (.int (low k))) m := by
  rcases h with rfl | rfl | rfl <;> rfl
end S09P
end Cn

namespace Cn
namespace S09P
theorem r_seq_2 (n a : Nat) (p r : List Nat) (m : Mu) (h : ¬ a < 128) (h0 : lenBy a ≠ 0) (h1 : lenBy a ≤ r.length + 1) (hr : (p ++ a :: r).length ≤ line) : run dfs (n + 2) 4 [.d (.lst (nD (p ++ a :: r))), .d (.int (p.length : Int))] m = .ok (seqW a r) m := by
  rw [run_at (d := f_sequence_at) rfl]
  have e := ix_row m p a r
  have h' : ¬ (a : Int) < 128 := by omega
  have e3 := r_length_by n a m
  have kc : lenBy a = 2 ∨ lenBy a = 3 ∨ lenBy a = 4 := (lenBy_cases a).resolve_left h0
  have hz' : ¬ (lenBy a : Int) = 0 := by omega
  have hl : ¬ (p.length : Int) + (r.length + 1) < p.length + lenBy a := by omega
  have hr' : p.length + (r.length + 1) ≤ 16777216 := by simpa [line] using hr
  have eb := ix_base m _ kc
  have el := ix_low m _ kc
  have hb := lenBy_base h0
  have es : (a : Int) - base (lenBy a) = (a - base (lenBy a) : Nat) := by omega
  have ec := cut_row p r a (lenBy a - 1) (by omega)
  have e1 : lenBy a - 1 + 1 = lenBy a := by omega
  rw [e1] at ec
  obtain ⟨σ, x4, lp⟩ := seq_loop (n + 1) m (some (.d (.lst (nD (p ++ a :: r))))) (some (.d (.int (p.length : Int)))) (some (.d (.int (lenBy a)))) (r.take (lenBy a - 1)) (a - base (lenBy a)) none
  have e4 := r_is_point n ((r.take (lenBy a - 1)).foldl seqStep (a - base (lenBy a))) m
  have hs0 : runD (run dfs (n + 1)) f_sequence_at [.d (.lst (nD (p ++ a :: r))), .d (.int (p.length : Int))] m = endS m.length (evSs (run dfs (n + 1)) [some (.d (.lst (nD (p ++ a :: r)))), some (.d (.int (p.length : Int))), none, none, none] m b_sequence_at) := by
    simp [runD, f_sequence_at, start]
  rw [hs0]
  unfold b_sequence_at
  generalize hR : (W.d (.lst (nD (p ++ a :: r)))) = R at *
  generalize hA : (W.d (.int (p.length : Int))) = A at *
  rw [evSs]
  have s1 : evS (run dfs (n + 1)) [some R, some A, none, none, none] m (.if_ (.cmp .lt (.ix (.var 0) (.var 1)) (.int (128))) (.cons (.ret (.tup (.cons (.ix (.var 0) (.var 1)) (.cons (.int (1)) (.nil))))) (.nil)) (.nil)) = .next [some R, some A, none, none, none] m := by
    simp [evSs, evS, evE, evEs, tst, cmpR, ordR, blR, e, h']
  rw [s1, SR.then_next, evSs]
  have s2 : evS (run dfs (n + 1)) [some R, some A, none, none, none] m (.asg 2 (.call 3 (.cons (.ix (.var 0) (.var 1)) (.nil)))) = .next [some R, some A, some (.d (.int (lenBy a))), none, none] m := by
    simp [evS, evE, evEs, e, e3]
  rw [s2, SR.then_next, evSs]
  have s3 : evS (run dfs (n + 1)) [some R, some A, some (.d (.int (lenBy a))), none, none] m (.if_ (.or2 (.cmp .eq (.var 2) (.int (0))) (.cmp .gt (.bin .add (.var 1) (.var 2)) (.b1 .len (.var 0)))) (.cons (.ret (.tup (.cons (.int (0)) (.cons (.int (0)) (.nil))))) (.nil)) (.nil)) = .next [some R, some A, some (.d (.int (lenBy a))), none, none] m := by
    subst hR
    subst hA
    simp [evSs, evS, evE, evEs, tst, cmpR, ordR, blR, eq_int, h0, guardR, line, binR, addR, b1R, items, itemsD, rd, hl, nD_len, hr']
  rw [s3, SR.then_next, evSs]
  have s4 : evS (run dfs (n + 1)) [some R, some A, some (.d (.int (lenBy a))), none, none] m (.asg 3 (.bin .sub (.ix (.var 0) (.var 1)) (.ix (.tup (.cons (.int (192)) (.cons (.int (224)) (.cons (.int (240)) (.nil))))) (.bin .sub (.var 2) (.int (2)))))) = .next [some R, some A, some (.d (.int (lenBy a))), some (.d (.int (a - base (lenBy a) : Nat))), none] m := by
    simp [evS, evE, evEs, e, allD, guardR, line, binR, subR, eb, es]
  rw [s4, SR.then_next, evSs]
  have s5 : evIt (run dfs (n + 1)) [some R, some A, some (.d (.int (lenBy a))), some (.d (.int (a - base (lenBy a) : Nat))), none] m (.seq (.sl (.var 0) (.bin .add (.var 1) (.int (1))) (.bin .add (.var 1) (.var 2)))) = .ok ((nD (r.take (lenBy a - 1))).map .d) m := by
    subst hR
    subst hA
    simp [evIt, evE, binR, addR, slR, rd, ec, itemsD]
  rw [evS, s5, Res.toS_ok, lp]
  have hnot : ¬ (lenBy a = 0 ∨ r.length + 1 < lenBy a) := by omega
  cases hall : (r.take (lenBy a - 1)).all Kh450.isContinuation with
  | false => simp [endS, endR, seqW, dec, h, hnot, hall]
  | true =>
    rw [if_pos rfl, SR.then_next, evSs]
    generalize hv : (r.take (lenBy a - 1)).foldl seqStep (a - base (lenBy a)) = v at *
    have hd : (r.length + 1 - (r.drop (lenBy a - 1)).length : Nat) = lenBy a := by rw [List.length_drop]; omega
    have hsq : seqW a r = if low (lenBy a) ≤ v ∧ Kh450.isScalar v = true then .d (.tup [.int v, .int (lenBy a)]) else .d (.tup [.int 0, .int 0]) := by
      unfold seqW dec
      rw [if_neg h, if_neg hnot, if_pos hall, hv]
      by_cases g : low (lenBy a) ≤ v ∧ Kh450.isScalar v = true
      · rw [if_pos g, if_pos g]
        show W.d (.tup [.int v, .int ((r.length + 1 - (r.drop (lenBy a - 1)).length : Nat) : Int)]) = _
        rw [hd]
      · rw [if_neg g, if_neg g]
    rw [hsq]
    by_cases hw : v < low (lenBy a)
    · have hw' : (v : Int) < low (lenBy a) := by omega
      have g : ¬ (low (lenBy a) ≤ v ∧ Kh450.isScalar v = true) := by omega
      simp [evSs, evS, evE, evEs, tst, cmpR, ordR, blR, allD, guardR, line, binR, subR, el, hw', endS, endR, g]
    · have hw' : ¬ (v : Int) < low (lenBy a) := by omega
      have g : low (lenBy a) ≤ v := by omega
      cases hsc : Kh450.isScalar v <;>
        simp [evSs, evS, evE, evEs, tst, cmpR, ordR, blR, allD, guardR, line, binR, subR, el, hw', endS, endR, g, e4, hsc]
end S09P
end Cn

namespace Cn
namespace S09P
theorem r_seq (n a : Nat) (p r : List Nat) (m : Mu) (hr : (p ++ a :: r).length ≤ line) : run dfs (n + 2) 4 [.d (.lst (nD (p ++ a :: r))), .d (.int (p.length : Int))] m = .ok (seqW a r) m := by
  by_cases h : a < 128
  · exact r_seq_1 n a p r m h
  · by_cases h0 : lenBy a = 0 ∨ r.length + 1 < lenBy a
    · exact r_seq_0 n a p r m h h0 hr
    · exact r_seq_2 n a p r m h (by omega) (by omega) hr
end S09P
end Cn

namespace Cn
namespace S09P
theorem dec_cut {a : Nat} {r : List Nat} {c : Nat} {rest : List Nat} (h : dec a r = some (c, rest)) : ∃ q : List Nat, a :: r = q ++ rest ∧ 0 < q.length ∧ q.length = r.length + 1 - rest.length := by
  unfold dec at h
  split at h
  · cases h
    exact ⟨[a], rfl, by simp, by simp⟩
  · split at h
    · cases h
    · rename_i hn
      split at h
      · split at h
        · simp only [Option.some.injEq, Prod.mk.injEq] at h
          obtain ⟨_, rfl⟩ := h
          refine ⟨a :: r.take (lenBy a - 1), by simp, by simp, ?_⟩
          simp
          omega
        · cases h
      · cases h
abbrev decC : E := .cmp .lt (.var 2) (.b1 .len (.var 0))
abbrev decB : Ss := .cons (.asgT [3, 4] (.call 4 (.cons (.var 0) (.cons (.var 2) (.nil))))) (.cons (.if_ (.cmp .eq (.var 4) (.int (0))) (.cons (.ret (.non)) (.nil)) (.nil)) (.cons (.ex (.app (.var 1) (.var 3))) (.cons (.asg 2 (.bin .add (.var 2) (.var 4))) (.nil))))
end S09P
end Cn

namespace Cn
namespace S09P
/-- one round of decoded, where a point is read -/
theorem dec_step (n : Nat) (m : Mu) (p : List Nat) (a : Nat) (r acc : List Nat) (c : Nat) (rest : List Nat) (x3 x4 : Option W) (hr : (p ++ a :: r).length ≤ line) (ha : acc.length < line) (h : dec a r = some (c, rest)) :
    evSs (run dfs (n + 2)) [some (.d (.lst (nD (p ++ a :: r)))), some (.h m.length), some (.d (.int (p.length : Int))), x3, x4] (m ++ [some ⟨.o (.lst (nD acc)), []⟩]) decB =
      .next [some (.d (.lst (nD (p ++ a :: r)))), some (.h m.length), some (.d (.int ((p.length + (r.length + 1 - rest.length) : Nat) : Int))), some (.d (.int c)), some (.d (.int ((r.length + 1 - rest.length : Nat) : Int)))] (m ++ [some ⟨.o (.lst (nD (acc ++ [c]))), []⟩]) := by
  have e := r_seq n a p r (m ++ [some ⟨.o (.lst (nD acc)), []⟩]) hr
  obtain ⟨q, q1, q2, q3⟩ := dec_cut h
  have hs : seqW a r = .d (.tup [.int c, .int ((r.length + 1 - rest.length : Nat) : Int)]) := by simp [seqW, h]
  rw [hs] at e
  generalize hk : r.length + 1 - rest.length = k at *
  have hk0 : ¬ (k : Int) = 0 := by omega
  have hk1 : k ≠ 0 := by omega
  have hl : (nD acc).length < line := by rw [nD_len]; exact ha
  generalize hR : (W.d (.lst (nD (p ++ a :: r)))) = R at *
  simp [evSs, evS, evE, evEs, e, bindG, tst, cmpR, ordR, blR, eq_int, hk0, hk1, isLst, lst_at, appR, appFo, foAt, guardR, hl, setFo, lst_set, nD_app, binR, addR]
  rfl
end S09P
end Cn

namespace Cn
namespace S09P
theorem dec_stop (n : Nat) (m : Mu) (p : List Nat) (a : Nat) (r acc : List Nat) (x3 x4 : Option W) (hr : (p ++ a :: r).length ≤ line) (h : dec a r = none) :
    ∃ σ, evSs (run dfs (n + 2)) [some (.d (.lst (nD (p ++ a :: r)))), some (.h m.length), some (.d (.int (p.length : Int))), x3, x4] (m ++ [some ⟨.o (.lst (nD acc)), []⟩]) decB =
      .ret (.d .non) σ (m ++ [some ⟨.o (.lst (nD acc)), []⟩]) := by
  have e := r_seq n a p r (m ++ [some ⟨.o (.lst (nD acc)), []⟩]) hr
  have hs : seqW a r = .d (.tup [.int 0, .int 0]) := by simp [seqW, h]
  rw [hs] at e
  generalize hR : (W.d (.lst (nD (p ++ a :: r)))) = R at *
  exact ⟨_, by simp [evSs, evS, evE, evEs, e, bindG, tst, cmpR, ordR, blR, eq_int]; rfl⟩
theorem dec_cond (n : Nat) (m : Mu) (row : List Nat) (at_ : Nat) (x1 x3 x4 : Option W) (hr : row.length ≤ line) : tst (evE (run dfs n) [some (.d (.lst (nD row))), x1, some (.d (.int (at_ : Int))), x3, x4] m decC) = .ok (decide (at_ < row.length)) m := by
  have hl : row.length ≤ 16777216 := hr
  simp [evE, b1R, items, rd, guardR, nD_len, line, hl, cmpR, ordR, blR, tst]
theorem dec_loop (n : Nat) (m : Mu) : ∀ (j : Nat) (p rest acc : List Nat) (x3 x4 : Option W) (fuel : Nat), rest.length ≤ j → rest.length + 1 ≤ fuel → (p ++ rest).length < line → acc.length ≤ p.length →
    (match Kh450.decodeAllLoop j rest with
    | some cs => ∃ x2' x3' x4', whGo (fun σ m => tst (evE (run dfs (n + 2)) σ m decC)) (fun σ m => evSs (run dfs (n + 2)) σ m decB) fuel [some (.d (.lst (nD (p ++ rest)))), some (.h m.length), some (.d (.int (p.length : Int))), x3, x4] (m ++ [some ⟨.o (.lst (nD acc)), []⟩]) =
        .next [some (.d (.lst (nD (p ++ rest)))), some (.h m.length), x2', x3', x4'] (m ++ [some ⟨.o (.lst (nD (acc ++ cs))), []⟩])
    | none => ∃ σ acc', whGo (fun σ m => tst (evE (run dfs (n + 2)) σ m decC)) (fun σ m => evSs (run dfs (n + 2)) σ m decB) fuel [some (.d (.lst (nD (p ++ rest)))), some (.h m.length), some (.d (.int (p.length : Int))), x3, x4] (m ++ [some ⟨.o (.lst (nD acc)), []⟩]) =
        .ret (.d .non) σ (m ++ [some ⟨.o (.lst (nD acc')), []⟩]))
  | j, p, [], acc, x3, x4, fuel, hj, hf, hr, ha => by
    cases fuel with
    | zero => simp at hf
    | succ fuel =>
      have e : Kh450.decodeAllLoop j [] = some [] := by cases j <;> rfl
      rw [e]
      have ec := dec_cond (n + 2) (m ++ [some ⟨.o (.lst (nD acc)), []⟩]) (p ++ []) p.length (some (.h m.length)) x3 x4 (by omega)
      refine ⟨some (.d (.int (p.length : Int))), x3, x4, ?_⟩
      rw [whGo, ec]
      simp
  | 0, p, a :: r, acc, x3, x4, fuel, hj, hf, hr, ha => by simp at hj
  | j + 1, p, a :: r, acc, x3, x4, fuel, hj, hf, hr, ha => by
    cases fuel with
    | zero => simp at hf
    | succ fuel =>
      have ec := dec_cond (n + 2) (m ++ [some ⟨.o (.lst (nD acc)), []⟩]) (p ++ a :: r) p.length (some (.h m.length)) x3 x4 (by omega)
      have et : decide (p.length < (p ++ a :: r).length) = true := by simp
      rw [et] at ec
      have hd : Kh450.decodeAllLoop (j + 1) (a :: r) = match dec a r with
        | none => none
        | some (c, rest) => (Kh450.decodeAllLoop j rest).map fun codes => c :: codes := by
        rw [← dec_eq]
        rfl
      rw [hd]
      cases hdd : dec a r with
      | none =>
        obtain ⟨σ, es⟩ := dec_stop n m p a r acc x3 x4 (by omega) hdd
        refine ⟨σ, acc, ?_⟩
        rw [whGo, ec, Res.toS_ok, if_pos rfl, es, SR.then_ret]
      | some cr =>
        obtain ⟨c, rest⟩ := cr
        obtain ⟨q, q1, q2, q3⟩ := dec_cut hdd
        have es := dec_step n m p a r acc c rest x3 x4 (by omega) (by simp at hr; omega) hdd
        have hlen : (a :: r).length = q.length + rest.length := by rw [q1]; simp
        have ih := dec_loop n m j (p ++ q) rest (acc ++ [c]) (some (.d (.int c))) (some (.d (.int ((r.length + 1 - rest.length : Nat) : Int)))) fuel (by simp at hlen hj; omega) (by simp at hlen hf; omega)
          (by rw [List.append_assoc, ← q1]; exact hr) (by simp; omega)
        have er : (p ++ q) ++ rest = p ++ a :: r := by rw [List.append_assoc, ← q1]
        have el : ((p.length + (r.length + 1 - rest.length) : Nat) : Int) = ((p ++ q).length : Int) := by rw [← q3]; simp
        rw [er] at ih
        rw [← el] at ih
        cases hz : Kh450.decodeAllLoop j rest with
        | none =>
          rw [hz] at ih
          obtain ⟨σ, acc', ih⟩ := ih
          simp only [hz, Option.map_none]
          refine ⟨σ, acc', ?_⟩
          rw [whGo, ec, Res.toS_ok, if_pos rfl, es, SR.then_next]
          exact ih
        | some cs =>
          rw [hz] at ih
          obtain ⟨y2, y3, y4, ih⟩ := ih
          simp only [hz, Option.map_some]
          refine ⟨y2, y3, y4, ?_⟩
          rw [whGo, ec, Res.toS_ok, if_pos rfl, es, SR.then_next]
          simpa [List.append_assoc] using ih
end S09P
end Cn

namespace Cn
namespace S09P
theorem r_decoded (n : Nat) (row : List Nat) (m : Mu) (hr : row.length < 999999) : run dfs (n + 3) 5 [.d (.lst (nD row))] m = .ok (match Kh450.decodeAll row with | none => .d .non | some cs => .d (.tup (nD cs))) m := by
  rw [run_at (d := f_decoded) rfl]
  have lp := dec_loop n m row.length [] row [] none none turns (Nat.le_refl _) (by unfold turns; omega) (by unfold line; simp; omega) (Nat.le_refl _)
  show endS m.length (evSs (run dfs (n + 2)) [some (.d (.lst (nD row))), none, none, none, none] m b_decoded) = _
  unfold b_decoded
  have e1 : evS (run dfs (n + 2)) [some (.d (.lst (nD row))), none, none, none, none] m (.asg 1 (.lstM .nil)) = .next [some (.d (.lst (nD row))), some (.h m.length), none, none, none] (m ++ [some ⟨.o (.lst (nD [])), []⟩]) := by
    simp [evS, evE, evEs, allD, guardR, newR, nD]
  have e2 : evS (run dfs (n + 2)) [some (.d (.lst (nD row))), some (.h m.length), none, none, none] (m ++ [some ⟨.o (.lst (nD [])), []⟩]) (.asg 2 (.int 0)) = .next [some (.d (.lst (nD row))), some (.h m.length), some (.d (.int (([] : List Nat).length : Int))), none, none] (m ++ [some ⟨.o (.lst (nD [])), []⟩]) := by
    simp [evS, evE]
  rw [evSs, e1, SR.then_next, evSs, e2, SR.then_next, evSs, evS]
  unfold Kh450.decodeAll
  simp only [List.nil_append] at lp
  cases hz : Kh450.decodeAllLoop row.length row with
  | none =>
    rw [hz] at lp
    obtain ⟨σ, acc', lp⟩ := lp
    rw [lp, SR.then_ret]
    simp [endS, endR]
  | some cs =>
    rw [hz] at lp
    obtain ⟨x2, x3, x4, lp⟩ := lp
    rw [lp, SR.then_next, ev_ret]
    simp [evE, b1R, rd, lst_at, grAt, Gr.data, Fo.data, Ob.lstD, endS, endR]
end S09P
end Cn

namespace Cn
namespace S09P
theorem r_text_of (n : Nat) (row : List Nat) (m : Mu) (hr : row.length < 999999) : run dfs (n + 4) 16 [.d (.lst (nD row))] m = (match Kh450.decodeAll row with | none => .exc ⟨0, [-24]⟩ m | some cs => .ok (.d (.tup (nD cs))) m) := by
  rw [run_at (d := f_text_of) rfl]
  have e := r_decoded n row m hr
  cases h : Kh450.decodeAll row with
  | none =>
    rw [h] at e
    have ew := r_want_f (n + 2) (-24) m
    simp [runD, f_text_of, b_text_of, start, evSs, evS, evE, evEs, e, cmpR, isNR, noneR, notR, blR, ew, endS, endR]
  | some cs =>
    rw [h] at e
    have ew := r_want_t (n + 2) (.d (.int (-24))) m
    simp [runD, f_text_of, b_text_of, start, evSs, evS, evE, evEs, e, cmpR, isNR, noneR, notR, blR, ew, endS, endR]
end S09P
end Cn

namespace Cn
namespace S09P
def shN : Kh454.Shape → Nat
  | .arabic => 0 | .upperLetters => 1 | .lowerLetters => 2 | .upperRoman => 3 | .lowerRoman => 4
theorem shp_shN (s : Kh454.Shape) : shp (shN s) = some s := by cases s <;> rfl
def partD : Kh454.Part → D
  | .text t => .tup [.int (-1), .int (t.headD 0 : Nat)]
  | .counter s => .tup [.int (shN s), .int 0]
  | .level s n => .tup [.int (shN s), .int n]
theorem ix_tup (m : Mu) (p : List Nat) (a : Nat) (r : List Nat) : ixR m (.d (.tup (nD (p ++ a :: r)))) (.d (.int (p.length : Int))) = .ok (.d (.int a)) m := by
  have h := atZ_mid (nD p) (D.int a) (nD r)
  rw [nD_len] at h
  have e : nD (p ++ a :: r) = nD p ++ D.int a :: nD r := by simp [nD]
  simp only [ixR, e, h]
abbrev npT : Ss := (.cons (.if_ (.and2 (.cmp .lt (.var 1) (.b1 .len (.var 0))) (.cmp .eq (.ix (.var 0) (.var 1)) (.gi "COUNTER" (99)))) (.cons (.ret (.tup (.cons (.tup (.cons (.var 2) (.cons (.int (0)) (.nil)))) (.cons (.bin .add (.var 1) (.int (1))) (.nil))))) (.nil)) (.nil)) (.cons (.if_ (.and2 (.cmp .lt (.var 1) (.b1 .len (.var 0))) (.ch .le .le (.int (49)) (.ix (.var 0) (.var 1)) (.bin .add (.int (48)) (.gi "MOST_LEVEL_texts" (6))))) (.cons (.ret (.tup (.cons (.tup (.cons (.var 2) (.cons (.bin .sub (.ix (.var 0) (.var 1)) (.int (48))) (.nil)))) (.cons (.bin .add (.var 1) (.int (1))) (.nil))))) (.nil)) (.nil)) (.cons (.rais 1 0 (.nil)) (.nil))))
theorem np_nil (n : Nat) (m : Mu) (p : List Nat) (s : Kh454.Shape) (hp : p.length ≤ line) : evSs (run dfs n) [some (.d (.tup (nD p))), some (.d (.int (p.length : Int))), some (.d (.int (shN s)))] m npT = .exc ⟨1, []⟩ [some (.d (.tup (nD p))), some (.d (.int (p.length : Int))), some (.d (.int (shN s)))] m := by
  have hl : p.length ≤ 16777216 := hp
  simp [evSs, evS, evE, evEs, tst, cmpR, ordR, blR, b1R, items, guardR, nD_len, line, hl, intF]
theorem np_cons (n : Nat) (m : Mu) (p : List Nat) (d : Nat) (o : List Nat) (s : Kh454.Shape) (hp : (p ++ d :: o).length ≤ line) :
    evSs (run dfs n) [some (.d (.tup (nD (p ++ d :: o)))), some (.d (.int (p.length : Int))), some (.d (.int (shN s)))] m npT =
      match Kh454.partOf s d with
      | none => .exc ⟨1, []⟩ [some (.d (.tup (nD (p ++ d :: o)))), some (.d (.int (p.length : Int))), some (.d (.int (shN s)))] m
      | some part => .ret (.d (.tup [partD part, .int ((p.length + 1 : Nat) : Int)])) [some (.d (.tup (nD (p ++ d :: o)))), some (.d (.int (p.length : Int))), some (.d (.int (shN s)))] m := by
  have hl : p.length + (o.length + 1) ≤ 16777216 := by simpa [line] using hp
  have hlt : (p.length : Int) < p.length + (o.length + 1) := by omega
  have ei := ix_tup m p d o
  have el : (nD (p ++ d :: o)).length = p.length + (o.length + 1) := by rw [nD_len]; simp
  generalize hL : nD (p ++ d :: o) = L at *
  by_cases h1 : d = 99
  · subst h1
    simp [evSs, evS, evE, evEs, tst, cmpR, ordR, blR, eq_int, b1R, items, guardR, line, hl, hlt, el, ei, allD, binR, addR, Kh454.partOf, partD]
  · have h1' : ¬ (d : Int) = 99 := by omega
    by_cases h2 : 49 ≤ d
    · have h2' : (49 : Int) ≤ d := by omega
      by_cases h3 : d ≤ 54
      · have h3' : (d : Int) ≤ 54 := by omega
        have h4 : (d : Int) - 48 = (d - 48 : Nat) := by omega
        simp [evSs, evS, evE, evEs, tst, cmpR, ordR, blR, eq_int, b1R, items, guardR, line, hl, hlt, el, ei, allD, binR, addR, subR, Kh454.partOf, partD, h1, h1', h2, h2', h3, h3', h4]
      · have h3' : ¬ (d : Int) ≤ 54 := by omega
        simp [evSs, evS, evE, evEs, tst, cmpR, ordR, blR, eq_int, b1R, items, guardR, line, hl, hlt, el, ei, allD, binR, addR, subR, Kh454.partOf, partD, h1, h1', h2, h2', h3, h3', intF]
    · have h2' : ¬ (49 : Int) ≤ d := by omega
      simp [evSs, evS, evE, evEs, tst, cmpR, ordR, blR, eq_int, b1R, items, guardR, line, hl, hlt, el, ei, allD, binR, addR, subR, Kh454.partOf, partD, h1, h1', h2, h2', intF]
end S09P
end Cn

namespace Cn
namespace S09P
theorem cut_one (p r : List Nat) : cutZ (nD (p ++ r)) (some (p.length : Int)) (some ((p.length : Int) + 1)) = nD (r.take 1) := by
  have c1 : clipZ (nD (p ++ r)).length 0 (some (p.length : Int)) = p.length := by
    unfold clipZ
    rw [nD_len]
    simp only [List.length_append]
    split
    · omega
    · omega
  have c2 : clipZ (nD (p ++ r)).length (nD (p ++ r)).length (some ((p.length : Int) + 1)) - p.length = min 1 r.length := by
    unfold clipZ
    rw [nD_len]
    simp only [List.length_append]
    split
    · omega
    · omega
  unfold cutZ
  rw [c1, c2, nD_app, List.drop_append_of_le_length (by rw [nD_len]; omega), List.drop_of_length_le (by rw [nD_len]; omega)]
  cases r <;> simp [nD]
abbrev npI : S := (.if_ (.cmp .eq (.sl (.var 0) (.var 1) (.bin .add (.var 1) (.int (1)))) (.tup (.cons (.gi "PERCENT" (37)) (.nil)))) (.cons (.ret (.tup (.cons (.tup (.cons (.gi "LITERAL" (-1)) (.cons (.gi "PERCENT" (37)) (.nil)))) (.cons (.bin .add (.var 1) (.int (1))) (.nil))))) (.nil)) (.nil))
abbrev npJ : S := (.if_ (.and2 (.cmp .lt (.var 1) (.b1 .len (.var 0))) (.gin "SHAPES" (d_SHAPES) (.ix (.var 0) (.var 1)))) (.cons (.asg 2 (.gget "SHAPES" (d_SHAPES) (.ix (.var 0) (.var 1)))) (.cons (.asg 1 (.bin .add (.var 1) (.int (1)))) (.nil))) (.nil))
theorem np_split : b_number_piece = .cons npI (.cons (.asg 2 (.gi "ARABIC" (0))) (.cons npJ npT)) := rfl
theorem np_i0 (n : Nat) (m : Mu) (p : List Nat) (x2 : Option W) : evS (run dfs n) [some (.d (.tup (nD (p ++ [])))), some (.d (.int (p.length : Int))), x2] m npI = .next [some (.d (.tup (nD (p ++ [])))), some (.d (.int (p.length : Int))), x2] m := by
  have ec := cut_one p []
  generalize nD (p ++ []) = L at *
  simp [nD] at ec
  simp [evSs, evS, evE, evEs, tst, cmpR, eqR, blR, binR, addR, slR, rd, ec, allD, guardR, line, D.plain, D.plains, D.depth, D.depths, D.eqv, D.eqvs]
theorem np_i1 (n : Nat) (m : Mu) (p : List Nat) (c : Nat) (r : List Nat) (x2 : Option W) : evS (run dfs n) [some (.d (.tup (nD (p ++ c :: r)))), some (.d (.int (p.length : Int))), x2] m npI =
    if c = 37 then .ret (.d (.tup [.tup [.int (-1), .int 37], .int ((p.length : Int) + 1)])) [some (.d (.tup (nD (p ++ c :: r)))), some (.d (.int (p.length : Int))), x2] m else .next [some (.d (.tup (nD (p ++ c :: r)))), some (.d (.int (p.length : Int))), x2] m := by
  have ec := cut_one p (c :: r)
  generalize nD (p ++ c :: r) = L at *
  simp [nD] at ec
  by_cases h : c = 37
  · subst h
    simp [evSs, evS, evE, evEs, tst, cmpR, eqR, blR, binR, addR, slR, rd, ec, allD, guardR, line, D.plain, D.plains, D.depth, D.depths, D.eqv, D.eqvs]
  · have h' : ¬ (c : Int) = 37 := by omega
    simp [evSs, evS, evE, evEs, tst, cmpR, eqR, blR, binR, addR, slR, rd, ec, allD, guardR, line, D.plain, D.plains, D.depth, D.depths, D.eqv, D.eqvs, h, h']
theorem np_j0 (n : Nat) (m : Mu) (p : List Nat) (x2 : W) (hp : p.length ≤ line) : evS (run dfs n) [some (.d (.tup (nD (p ++ [])))), some (.d (.int (p.length : Int))), some x2] m npJ = .next [some (.d (.tup (nD (p ++ [])))), some (.d (.int (p.length : Int))), some x2] m := by
  have hl : p.length ≤ 16777216 := hp
  have el : (nD (p ++ [])).length = p.length := by rw [nD_len]; simp
  generalize nD (p ++ []) = L at *
  simp [evSs, evS, evE, evEs, tst, cmpR, ordR, blR, b1R, items, guardR, el, line, hl]
theorem shape_lk (c : Nat) : d_SHAPES.lookup (c : Int) = (Kh454.shapeOf c).map fun s => (shN s : Int) := by
  unfold d_SHAPES Kh454.shapeOf
  by_cases h1 : c = 65
  · subst h1; rfl
  · by_cases h2 : c = 97
    · subst h2; rfl
    · by_cases h3 : c = 82
      · subst h3; rfl
      · by_cases h4 : c = 114
        · subst h4; rfl
        · have q1 : ((c : Int) == 65) = false := by simp; omega
          have q2 : ((c : Int) == 97) = false := by simp; omega
          have q3 : ((c : Int) == 82) = false := by simp; omega
          have q4 : ((c : Int) == 114) = false := by simp; omega
          simp [List.lookup, q1, q2, q3, q4, h1, h2, h3, h4]
theorem np_j1 (n : Nat) (m : Mu) (p : List Nat) (c : Nat) (r : List Nat) (x2 : W) (hp : (p ++ c :: r).length ≤ line) : evS (run dfs n) [some (.d (.tup (nD (p ++ c :: r)))), some (.d (.int (p.length : Int))), some x2] m npJ =
    match Kh454.shapeOf c with
    | none => .next [some (.d (.tup (nD (p ++ c :: r)))), some (.d (.int (p.length : Int))), some x2] m
    | some s => .next [some (.d (.tup (nD (p ++ c :: r)))), some (.d (.int ((p.length : Int) + 1))), some (.d (.int (shN s)))] m := by
  have hl : p.length + (r.length + 1) ≤ 16777216 := by simpa [line] using hp
  have hlt : (p.length : Int) < p.length + (r.length + 1) := by omega
  have ei := ix_tup m p c r
  have el : (nD (p ++ c :: r)).length = p.length + (r.length + 1) := by rw [nD_len]; simp
  have eg : ginR d_SHAPES m (.d (.int c)) = .ok (.d (.bl (Kh454.shapeOf c).isSome)) m := by
    rw [ginR, shape_lk]
    cases Kh454.shapeOf c <;> rfl
  have eh : ∀ s, Kh454.shapeOf c = some s → ggetR d_SHAPES m (.d (.int c)) = .ok (.d (.int (shN s))) m := by
    intro s hs
    rw [ggetR, shape_lk, hs]
    rfl
  generalize nD (p ++ c :: r) = L at *
  cases hs : Kh454.shapeOf c with
  | none =>
    rw [hs] at eg
    simp [evSs, evS, evE, evEs, tst, cmpR, ordR, blR, b1R, items, guardR, el, line, hl, hlt, ei, eg]
  | some s =>
    rw [hs] at eg
    have eh := eh s hs
    simp [evSs, evS, evE, evEs, tst, cmpR, ordR, blR, b1R, items, guardR, el, line, hl, hlt, ei, eg, eh]
    simp [binR, addR]
theorem rp_37 (r : List Nat) : Kh454.readPart (37 :: r) = some (.text [37], r) := rfl
theorem rp_c {c : Nat} (r : List Nat) (h : c ≠ 37) : Kh454.readPart (c :: r) = match Kh454.shapeOf c with
    | none => (Kh454.partOf .arabic c).map fun part => (part, r)
    | some shape => match r with
      | [] => none
      | d :: others => (Kh454.partOf shape d).map fun part => (part, others) := by
  unfold Kh454.readPart
  split
  · contradiction
  · rename_i e; cases e; contradiction
  · rename_i e; cases e; rfl
theorem r_np (n : Nat) (p rest : List Nat) (m : Mu) (hp : (p ++ rest).length ≤ line) : run dfs (n + 1) 12 [.d (.tup (nD (p ++ rest))), .d (.int (p.length : Int))] m =
    match Kh454.readPart rest with
    | none => .exc ⟨1, []⟩ m
    | some (part, others) => .ok (.d (.tup [partD part, .int ((p.length + (rest.length - others.length) : Nat) : Int)])) m := by
  rw [run_at (d := f_number_piece) rfl]
  show endS m.length (evSs (run dfs n) [some (.d (.tup (nD (p ++ rest)))), some (.d (.int (p.length : Int))), none] m b_number_piece) = _
  rw [np_split]
  have ea : ∀ x0 x1 : Option W, evS (run dfs n) [x0, x1, none] m (.asg 2 (.gi "ARABIC" (0))) = .next [x0, x1, some (.d (.int 0))] m := by
    intro x0 x1
    simp [evS, evE]
  cases rest with
  | nil =>
    have hp' : p.length ≤ line := by simpa using hp
    rw [evSs, np_i0 n m p none, SR.then_next, evSs, ea, SR.then_next, evSs, np_j0 n m p _ hp', SR.then_next]
    have := np_nil n m p .arabic hp'
    have e0 : Kh454.readPart [] = none := rfl
    rw [List.append_nil, e0]
    show endS m.length (evSs (run dfs n) [some (.d (.tup (nD p))), some (.d (.int (p.length : Int))), some (.d (.int (shN .arabic)))] m npT) = _
    rw [this]
    simp [endS]
  | cons c r =>
    rw [evSs, np_i1 n m p c r none]
    by_cases h : c = 37
    · subst h
      rw [if_pos rfl, SR.then_ret, rp_37]
      have e : r.length + 1 - r.length = 1 := by omega
      simp [endS, endR, partD, e]
    · rw [if_neg h, SR.then_next, evSs, ea, SR.then_next, evSs, np_j1 n m p c r _ hp, rp_c r h]
      cases hs : Kh454.shapeOf c with
      | none =>
        show endS m.length ((SR.next _ m).then _) = _
        rw [SR.then_next]
        have := np_cons n m p c r .arabic hp
        show endS m.length (evSs (run dfs n) [some (.d (.tup (nD (p ++ c :: r)))), some (.d (.int (p.length : Int))), some (.d (.int (shN .arabic)))] m npT) = _
        rw [this]
        have e : r.length + 1 - r.length = 1 := by omega
        cases Kh454.partOf .arabic c with
        | none => simp [endS]
        | some part => simp [endS, endR, e]
      | some s =>
        show endS m.length ((SR.next _ m).then _) = _
        rw [SR.then_next]
        have eL : p ++ c :: r = (p ++ [c]) ++ r := by simp
        have eI : (p.length : Int) + 1 = ((p ++ [c]).length : Int) := by simp
        rw [eL, eI]
        cases r with
        | nil =>
          rw [List.append_nil]
          rw [np_nil n m (p ++ [c]) s (by simpa using hp)]
          simp [endS]
        | cons d o =>
          rw [np_cons n m (p ++ [c]) d o s (by simpa using hp)]
          have e : o.length + 1 + 1 - o.length = 2 := by omega
          have ez : (Kh454.readPart (c :: d :: o) : Option (Kh454.Part × List Nat)) = (Kh454.partOf s d).map fun part => (part, o) := by rw [rp_c _ h, hs]
          show (_ : Res W) = (match (Kh454.partOf s d).map fun part => (part, o) with | none => Res.exc ⟨1, []⟩ m | some (part, others) => Res.ok (W.d (.tup [partD part, .int ((p.length + ((c :: d :: o).length - others.length) : Nat) : Int)])) m)
          cases Kh454.partOf s d with
          | none => simp [endS]
          | some part =>
            have e2 : (c :: d :: o).length - o.length = 2 := by simp only [List.length_cons]; omega
            simp only [Option.map_some, e2, endS, endR]
            simp
            omega
end S09P
end Cn

namespace Cn
namespace S09P
theorem rp_cut {rest : List Nat} {part : Kh454.Part} {others : List Nat} (h : Kh454.readPart rest = some (part, others)) : ∃ q : List Nat, rest = q ++ others ∧ 0 < q.length ∧ q.length = rest.length - others.length := by
  cases rest with
  | nil => cases h
  | cons c r =>
    by_cases hc : c = 37
    · subst hc
      rw [rp_37] at h
      cases h
      exact ⟨[37], rfl, by simp, by simp⟩
    · rw [rp_c r hc] at h
      cases hs : Kh454.shapeOf c with
      | none =>
        rw [hs] at h
        cases hp : Kh454.partOf .arabic c with
        | none => simp [hp] at h
        | some x =>
          simp [hp] at h
          obtain ⟨_, rfl⟩ := h
          exact ⟨[c], rfl, by simp, by simp⟩
      | some s =>
        rw [hs] at h
        cases r with
        | nil => cases h
        | cons d o =>
          cases hp : Kh454.partOf s d with
          | none => simp [hp] at h
          | some x =>
            simp [hp] at h
            obtain ⟨_, rfl⟩ := h
            exact ⟨[c, d], rfl, by simp, by simp; omega⟩
abbrev pcC : E := .cmp .lt (.var 2) (.b1 .len (.var 0))
abbrev pcB : Ss := (.cons (.if_ (.cmp .eq (.ix (.var 0) (.var 2)) (.gi "PERCENT" (37))) (.cons (.asgT [3, 2] (.call 12 (.cons (.var 0) (.cons (.bin .add (.var 2) (.int (1))) (.nil))))) (.cons (.ex (.app (.var 1) (.var 3))) (.nil))) (.cons (.ex (.app (.var 1) (.tup (.cons (.gi "LITERAL" (-1)) (.cons (.ix (.var 0) (.var 2)) (.nil)))))) (.cons (.asg 2 (.bin .add (.var 2) (.int (1)))) (.nil)))) (.nil))
theorem pc_cond (n : Nat) (m : Mu) (row : List Nat) (at_ : Nat) (x1 x3 : Option W) (hr : row.length ≤ line) : tst (evE (run dfs n) [some (.d (.tup (nD row))), x1, some (.d (.int (at_ : Int))), x3] m pcC) = .ok (decide (at_ < row.length)) m := by
  have hl : row.length ≤ 16777216 := hr
  simp [evE, b1R, items, rd, guardR, nD_len, line, hl, cmpR, ordR, blR, tst]
theorem pc_lit (n : Nat) (m : Mu) (p : List Nat) (c : Nat) (r : List Nat) (acc : List D) (x3 : Option W) (h : c ≠ 37) (ha : acc.length < line) :
    evSs (run dfs (n + 1)) [some (.d (.tup (nD (p ++ c :: r)))), some (.h m.length), some (.d (.int (p.length : Int))), x3] (m ++ [some ⟨.o (.lst acc), []⟩]) pcB =
      .next [some (.d (.tup (nD (p ++ c :: r)))), some (.h m.length), some (.d (.int ((p.length : Int) + 1))), x3] (m ++ [some ⟨.o (.lst (acc ++ [partD (.text [c])])), []⟩]) := by
  have ei := ix_tup (m ++ [some ⟨.o (.lst acc), []⟩]) p c r
  have h' : ¬ (c : Int) = 37 := by omega
  generalize nD (p ++ c :: r) = L at *
  have h2 : 2 ≤ line := by unfold line; omega
  simp [evSs, evS, evE, evEs, ei, tst, cmpR, eq_int, blR, h', isLst, lst_at, appR, appFo, foAt, guardR, ha, h2, setFo, lst_set, allD, partD, binR, addR]
theorem pc_bad (n : Nat) (m : Mu) (p : List Nat) (r : List Nat) (acc : List D) (x3 : Option W) (hp : (p ++ 37 :: r).length ≤ line) (h : Kh454.readPart r = none) :
    ∃ σ, evSs (run dfs (n + 1)) [some (.d (.tup (nD (p ++ 37 :: r)))), some (.h m.length), some (.d (.int (p.length : Int))), x3] (m ++ [some ⟨.o (.lst acc), []⟩]) pcB =
      .exc ⟨1, []⟩ σ (m ++ [some ⟨.o (.lst acc), []⟩]) := by
  have ei := ix_tup (m ++ [some ⟨.o (.lst acc), []⟩]) p 37 r
  have en := r_np n (p ++ [37]) r (m ++ [some ⟨.o (.lst acc), []⟩]) (by simpa using hp)
  rw [h] at en
  have eL : (p ++ [37]) ++ r = p ++ 37 :: r := by simp
  have eI : ((p ++ [37]).length : Int) = (p.length : Int) + 1 := by simp
  rw [eL, eI] at en
  generalize nD (p ++ 37 :: r) = L at *
  exact ⟨_, by simp [evSs, evS, evE, evEs, ei, tst, cmpR, eq_int, blR, binR, addR, en]; rfl⟩
theorem pc_num (n : Nat) (m : Mu) (p : List Nat) (r : List Nat) (acc : List D) (x3 : Option W) (part : Kh454.Part) (others : List Nat) (ha : acc.length < line) (hp : (p ++ 37 :: r).length ≤ line) (h : Kh454.readPart r = some (part, others)) :
    evSs (run dfs (n + 1)) [some (.d (.tup (nD (p ++ 37 :: r)))), some (.h m.length), some (.d (.int (p.length : Int))), x3] (m ++ [some ⟨.o (.lst acc), []⟩]) pcB =
      .next [some (.d (.tup (nD (p ++ 37 :: r)))), some (.h m.length), some (.d (.int ((p.length + 1 + (r.length - others.length) : Nat) : Int))), some (.d (partD part))] (m ++ [some ⟨.o (.lst (acc ++ [partD part])), []⟩]) := by
  have ei := ix_tup (m ++ [some ⟨.o (.lst acc), []⟩]) p 37 r
  have en := r_np n (p ++ [37]) r (m ++ [some ⟨.o (.lst acc), []⟩]) (by simpa using hp)
  rw [h] at en
  have eL : (p ++ [37]) ++ r = p ++ 37 :: r := by simp
  have eI : ((p ++ [37]).length : Int) = (p.length : Int) + 1 := by simp
  have eJ : (p ++ [37]).length = p.length + 1 := by simp
  rw [eL, eI, eJ] at en
  dsimp only at en
  generalize nD (p ++ 37 :: r) = L at *
  generalize partD part = pd at *
  generalize p.length + 1 + (r.length - others.length) = k at *
  simp [evSs, evS, evE, evEs, ei, tst, cmpR, eq_int, blR, binR, addR, en, bindG, isLst, lst_at, appR, appFo, foAt, guardR, ha, setFo, lst_set]
theorem pc_loop (n : Nat) (m : Mu) : ∀ (j : Nat) (p rest : List Nat) (acc : List D) (x3 : Option W) (fuel : Nat), rest.length < j → rest.length + 1 ≤ fuel → (p ++ rest).length < line → acc.length ≤ p.length →
    (match Kh454.parsePatternLoop j rest with
    | some ps => ∃ x2' x3', whGo (fun σ m => tst (evE (run dfs (n + 1)) σ m pcC)) (fun σ m => evSs (run dfs (n + 1)) σ m pcB) fuel [some (.d (.tup (nD (p ++ rest)))), some (.h m.length), some (.d (.int (p.length : Int))), x3] (m ++ [some ⟨.o (.lst acc), []⟩]) =
        .next [some (.d (.tup (nD (p ++ rest)))), some (.h m.length), x2', x3'] (m ++ [some ⟨.o (.lst (acc ++ ps.map partD)), []⟩])
    | none => ∃ σ acc', whGo (fun σ m => tst (evE (run dfs (n + 1)) σ m pcC)) (fun σ m => evSs (run dfs (n + 1)) σ m pcB) fuel [some (.d (.tup (nD (p ++ rest)))), some (.h m.length), some (.d (.int (p.length : Int))), x3] (m ++ [some ⟨.o (.lst acc), []⟩]) =
        .exc ⟨1, []⟩ σ (m ++ [some ⟨.o (.lst acc'), []⟩]))
  | 0, p, rest, acc, x3, fuel, hj, hf, hr, ha => by omega
  | j + 1, p, [], acc, x3, fuel, hj, hf, hr, ha => by
    cases fuel with
    | zero => simp at hf
    | succ fuel =>
      have ec := pc_cond (n + 1) (m ++ [some ⟨.o (.lst acc), []⟩]) (p ++ []) p.length (some (.h m.length)) x3 (by omega)
      show ∃ x2' x3', _
      refine ⟨some (.d (.int (p.length : Int))), x3, ?_⟩
      rw [whGo, ec]
      simp
  | j + 1, p, c :: r, acc, x3, fuel, hj, hf, hr, ha => by
    cases fuel with
    | zero => simp at hf
    | succ fuel =>
      have ec := pc_cond (n + 1) (m ++ [some ⟨.o (.lst acc), []⟩]) (p ++ c :: r) p.length (some (.h m.length)) x3 (by omega)
      have et : decide (p.length < (p ++ c :: r).length) = true := by simp
      rw [et] at ec
      have hacc : acc.length < line := by simp at hr; omega
      by_cases h : c = 37
      · subst h
        have hd : Kh454.parsePatternLoop (j + 1) (37 :: r) = match Kh454.readPart r with
          | none => none
          | some (part, others) => (Kh454.parsePatternLoop j others).map fun p => part :: p := rfl
        rw [hd]
        cases hp : Kh454.readPart r with
        | none =>
          obtain ⟨σ, es⟩ := pc_bad n m p r acc x3 (by omega) hp
          refine ⟨σ, acc, ?_⟩
          rw [whGo, ec, Res.toS_ok, if_pos rfl, es, SR.then_exc]
        | some po =>
          obtain ⟨part, others⟩ := po
          obtain ⟨q, q1, q2, q3⟩ := rp_cut hp
          have es := pc_num n m p r acc x3 part others hacc (by omega) hp
          have hlen : r.length = q.length + others.length := by rw [q1]; simp
          have ih := pc_loop n m j (p ++ 37 :: q) others (acc ++ [partD part]) (some (.d (partD part))) fuel (by simp at hj; omega) (by simp at hf; omega)
            (by rw [List.append_assoc, List.cons_append, ← q1]; exact hr) (by simp; omega)
          have er : (p ++ 37 :: q) ++ others = p ++ 37 :: r := by rw [List.append_assoc, List.cons_append, ← q1]
          have el : ((p.length + 1 + (r.length - others.length) : Nat) : Int) = ((p ++ 37 :: q).length : Int) := by rw [← q3]; simp; omega
          rw [er] at ih
          rw [← el] at ih
          cases hz : Kh454.parsePatternLoop j others with
          | none =>
            rw [hz] at ih
            obtain ⟨σ, acc', ih⟩ := ih
            simp only [hz, Option.map_none]
            refine ⟨σ, acc', ?_⟩
            rw [whGo, ec, Res.toS_ok, if_pos rfl, es, SR.then_next]
            exact ih
          | some ps =>
            rw [hz] at ih
            obtain ⟨y2, y3, ih⟩ := ih
            simp only [hz, Option.map_some]
            refine ⟨y2, y3, ?_⟩
            rw [whGo, ec, Res.toS_ok, if_pos rfl, es, SR.then_next]
            simpa [List.append_assoc] using ih
      · have hd : Kh454.parsePatternLoop (j + 1) (c :: r) = (Kh454.parsePatternLoop j r).map fun p => .text [c] :: p := by
          show (if c = 37 then _ else _) = _
          rw [if_neg h]
        rw [hd]
        have es := pc_lit n m p c r acc x3 h hacc
        have ih := pc_loop n m j (p ++ [c]) r (acc ++ [partD (.text [c])]) x3 fuel (by simp at hj; omega) (by simp at hf; omega)
          (by simpa using hr) (by simp; omega)
        have er : (p ++ [c]) ++ r = p ++ c :: r := by simp
        have el : (p.length : Int) + 1 = ((p ++ [c]).length : Int) := by simp
        rw [er, ← el] at ih
        cases hz : Kh454.parsePatternLoop j r with
        | none =>
          rw [hz] at ih
          obtain ⟨σ, acc', ih⟩ := ih
          simp only [hz, Option.map_none]
          refine ⟨σ, acc', ?_⟩
          rw [whGo, ec, Res.toS_ok, if_pos rfl, es, SR.then_next]
          exact ih
        | some ps =>
          rw [hz] at ih
          obtain ⟨y2, y3, ih⟩ := ih
          simp only [hz, Option.map_some]
          refine ⟨y2, y3, ?_⟩
          rw [whGo, ec, Res.toS_ok, if_pos rfl, es, SR.then_next]
          simpa [List.append_assoc] using ih
theorem r_pieces (n : Nat) (t : List Nat) (m : Mu) (hr : t.length < 999999) : run dfs (n + 2) 13 [.d (.tup (nD t))] m = (match Kh454.parsePattern t with | none => .exc ⟨1, []⟩ m | some ps => .ok (.d (.lst (ps.map partD))) m) := by
  rw [run_at (d := f_pieces_of) rfl]
  have lp := pc_loop n m (t.length + 1) [] t [] none turns (Nat.lt_succ_self _) (by unfold turns; omega) (by unfold line; simp; omega) (Nat.le_refl _)
  show endS m.length (evSs (run dfs (n + 1)) [some (.d (.tup (nD t))), none, none, none] m b_pieces_of) = _
  unfold b_pieces_of
  have e1 : evS (run dfs (n + 1)) [some (.d (.tup (nD t))), none, none, none] m (.asg 1 (.lstM .nil)) = .next [some (.d (.tup (nD t))), some (.h m.length), none, none] (m ++ [some ⟨.o (.lst []), []⟩]) := by
    simp [evS, evE, evEs, allD, guardR, newR]
  have e2 : evS (run dfs (n + 1)) [some (.d (.tup (nD t))), some (.h m.length), none, none] (m ++ [some ⟨.o (.lst []), []⟩]) (.asg 2 (.int 0)) = .next [some (.d (.tup (nD t))), some (.h m.length), some (.d (.int (([] : List Nat).length : Int))), none] (m ++ [some ⟨.o (.lst []), []⟩]) := by
    simp [evS, evE]
  rw [evSs, e1, SR.then_next, evSs, e2, SR.then_next, evSs, evS]
  unfold Kh454.parsePattern
  simp only [List.nil_append] at lp
  cases hz : Kh454.parsePatternLoop (t.length + 1) t with
  | none =>
    rw [hz] at lp
    obtain ⟨σ, acc', lp⟩ := lp
    rw [lp, SR.then_exc]
    simp [endS]
  | some cs =>
    rw [hz] at lp
    obtain ⟨x2, x3, lp⟩ := lp
    rw [lp, SR.then_next, ev_ret]
    simp [evE, fzR, grAt, Gr.data, Fo.data, endS, endR]
end S09P
end Cn

namespace Cn
namespace S09P
def romB : List (Nat × List Nat) → Nat → Nat
  | [], _ => 0
  | p :: l, B => (B / p.1) * p.2.length + romB l (min B (p.1 - 1))
theorem romL_len : ∀ (l : List (Nat × List Nat)) (B x : Nat), x ≤ B → (l.all fun p => decide (0 < p.1)) = true → (romL l x).length ≤ romB l B
  | [], B, x, _, _ => by simp [romL]
  | p :: l, B, x, hx, hl => by
    rw [List.all_cons, Bool.and_eq_true] at hl
    have h1 : 0 < p.1 := of_decide_eq_true hl.1
    have hm : x % p.1 ≤ min B (p.1 - 1) := by
      have a := Nat.mod_lt x h1
      have b := Nat.mod_le x p.1
      omega
    have ih := romL_len l (min B (p.1 - 1)) (x % p.1) hm hl.2
    unfold romL romB
    have e : ((List.replicate (x / p.1) p.2).flatten).length = x / p.1 * p.2.length := by simp
    rw [List.length_append, e]
    have : x / p.1 * p.2.length ≤ B / p.1 * p.2.length := Nat.mul_le_mul_right _ (Nat.div_le_div_right hx)
    omega
theorem rom40 (x : Nat) (h : x ≤ 3999) : (Kh454.roman x).length ≤ 40 := by
  rw [roman_eq]
  exact Nat.le_trans (romL_len romT 3999 x h (by decide)) (by decide)
theorem show40 (sh : Kh454.Shape) (x : Nat) : (Kh454.show_ sh x).length ≤ 40 := by
  have h1 : (Kh450.writeNat x).length ≤ 40 := Nat.le_trans (wr_bnd 20 x).1 (by decide)
  have h2 : (Kh454.letters x).length ≤ 40 := (let_ok x).1
  have up : ∀ t, (Kh454.upper t).length = t.length := fun t => by simp [Kh454.upper]
  cases sh with
  | arabic => exact h1
  | lowerLetters => unfold Kh454.show_; dsimp only; split <;> assumption
  | upperLetters => unfold Kh454.show_; dsimp only; split <;> (first | assumption | (rw [up]; assumption))
  | lowerRoman =>
    unfold Kh454.show_; dsimp only; split
    · assumption
    · rename_i h; exact rom40 x (by omega)
  | upperRoman =>
    unfold Kh454.show_; dsimp only; split
    · assumption
    · rename_i h; rw [up]; exact rom40 x (by omega)
/-- what the parts of a pattern that was read are like -/
def okPart : Kh454.Part → Prop
  | .text t => ∃ c, t = [c]
  | .level _ n => 1 ≤ n ∧ n ≤ 6
  | .counter _ => True
theorem partOf_ok {s : Kh454.Shape} {c : Nat} {part : Kh454.Part} (h : Kh454.partOf s c = some part) : okPart part := by
  unfold Kh454.partOf at h
  split at h
  · cases h; show 1 ≤ c - 48 ∧ c - 48 ≤ 6; omega
  · split at h
    · cases h; trivial
    · cases h
theorem rp_ok {rest : List Nat} {part : Kh454.Part} {others : List Nat} (h : Kh454.readPart rest = some (part, others)) : okPart part := by
  cases rest with
  | nil => cases h
  | cons c r =>
    by_cases hc : c = 37
    · subst hc
      rw [rp_37] at h
      cases h
      exact ⟨37, rfl⟩
    · rw [rp_c r hc] at h
      cases hs : Kh454.shapeOf c with
      | none =>
        rw [hs] at h
        cases hp : Kh454.partOf .arabic c with
        | none => simp [hp] at h
        | some x =>
          simp [hp] at h
          obtain ⟨rfl, _⟩ := h
          exact partOf_ok hp
      | some s =>
        rw [hs] at h
        cases r with
        | nil => cases h
        | cons d o =>
          cases hp : Kh454.partOf s d with
          | none => simp [hp] at h
          | some x =>
            simp [hp] at h
            obtain ⟨rfl, _⟩ := h
            exact partOf_ok hp
theorem ppl_ok : ∀ (j : Nat) (t : List Nat) (ps : Kh454.Pattern), Kh454.parsePatternLoop j t = some ps → (∀ p ∈ ps, okPart p) ∧ ps.length ≤ t.length
  | 0, t, ps, h => by cases h
  | j + 1, [], ps, h => by cases h; exact ⟨by simp, Nat.le_refl _⟩
  | j + 1, c :: r, ps, h => by
    by_cases hc : c = 37
    · subst hc
      have hd : Kh454.parsePatternLoop (j + 1) (37 :: r) = match Kh454.readPart r with
        | none => none
        | some (part, others) => (Kh454.parsePatternLoop j others).map fun p => part :: p := rfl
      rw [hd] at h
      cases hp : Kh454.readPart r with
      | none => rw [hp] at h; cases h
      | some po =>
        obtain ⟨part, others⟩ := po
        rw [hp] at h
        dsimp only at h
        cases hz : Kh454.parsePatternLoop j others with
        | none => rw [hz] at h; cases h
        | some qs =>
          rw [hz] at h
          cases h
          obtain ⟨i1, i2⟩ := ppl_ok j others qs hz
          obtain ⟨q, q1, q2, q3⟩ := rp_cut hp
          refine ⟨fun x hx => ?_, ?_⟩
          · rcases List.mem_cons.mp hx with rfl | hx
            · exact rp_ok hp
            · exact i1 x hx
          · have : r.length = q.length + others.length := by rw [q1]; simp
            simp
            omega
    · have hd : Kh454.parsePatternLoop (j + 1) (c :: r) = (Kh454.parsePatternLoop j r).map fun p => .text [c] :: p := by
        show (if c = 37 then _ else _) = _
        rw [if_neg hc]
      rw [hd] at h
      cases hz : Kh454.parsePatternLoop j r with
      | none => rw [hz] at h; cases h
      | some qs =>
        rw [hz] at h
        cases h
        obtain ⟨i1, i2⟩ := ppl_ok j r qs hz
        refine ⟨fun x hx => ?_, ?_⟩
        · rcases List.mem_cons.mp hx with rfl | hx
          · exact ⟨c, rfl⟩
          · exact i1 x hx
        · simp; omega
def fillPart (levels : List Nat) (counter : Nat) (part : Kh454.Part) : List Nat := match part with
  | .text t => t
  | .level shape n => Kh454.show_ shape (levels.getD (n - 1) 0)
  | .counter shape => Kh454.show_ shape counter
theorem fill_eq (levels : List Nat) (counter : Nat) (p : Kh454.Pattern) : Kh454.fillPattern levels counter p = p.flatMap (fillPart levels counter) := rfl
theorem fillPart_len (levels : List Nat) (counter : Nat) {part : Kh454.Part} (h : okPart part) : (fillPart levels counter part).length ≤ 40 := by
  cases part with
  | text t => obtain ⟨c, rfl⟩ := h; show 1 ≤ 40; decide
  | level s n => exact show40 s _
  | counter s => exact show40 s _
theorem fill_len (levels : List Nat) (counter : Nat) : ∀ (p : Kh454.Pattern), (∀ x ∈ p, okPart x) → (p.flatMap (fillPart levels counter)).length ≤ 40 * p.length
  | [], _ => by simp
  | x :: p, h => by
    have h1 := fillPart_len levels counter (h x List.mem_cons_self)
    have h2 := fill_len levels counter p fun y hy => h y (List.mem_cons_of_mem _ hy)
    rw [List.flatMap_cons, List.length_append, List.length_cons]
    omega
/-- the present numbers as the code keeps them -/
def presD (levels : List Nat) : List D := .int 0 :: nD ((List.range 6).map fun i => levels.getD i 0)
theorem pres_at (levels : List Nat) (n : Nat) (h : 1 ≤ n ∧ n ≤ 6) (m : Mu) : ixR m (.d (.lst (presD levels))) (.d (.int (n : Int))) = .ok (.d (.int (levels.getD (n - 1) 0 : Nat))) m := by
  obtain ⟨h1, h2⟩ := h
  match n, h1, h2 with
  | 1, _, _ => rfl
  | 2, _, _ => rfl
  | 3, _, _ => rfl
  | 4, _, _ => rfl
  | 5, _, _ => rfl
  | 6, _, _ => rfl
  | n + 7, _, h2 => omega
abbrev fiB : Ss := (.cons (.if_ (.cmp .eq (.var 4) (.gi "LITERAL" (-1))) (.cons (.asg 3 (.bin .add (.var 3) (.tup (.cons (.var 5) (.nil))))) (.nil)) (.cons (.asg 3 (.bin .add (.var 3) (.call 11 (.cons (.var 4) (.cons (.ife (.cmp .eq (.var 5) (.int (0))) (.var 2) (.ix (.var 1) (.var 5))) (.nil)))))) (.nil))) (.nil))
theorem fi_step (n : Nat) (m : Mu) (x0 : Option W) (levels : List Nat) (counter : Nat) (acc : List Nat) (x4 x5 : Option W) (part : Kh454.Part) (ho : okPart part) (hc : counter < 10 ^ 19) (hl : ∀ x ∈ levels, x < 10 ^ 19) (ha : acc.length + 40 ≤ line) :
    ∃ y4 y5, (match bindG [x0, some (.d (.lst (presD levels))), some (.d (.int (counter : Int))), some (.d (.tup (nD acc))), x4, x5] (.d (partD part)) (.t [4, 5]) with
      | some σ1 => evSs (run dfs (n + 3)) σ1 m fiB
      | none => .stuck) = .next [x0, some (.d (.lst (presD levels))), some (.d (.int (counter : Int))), some (.d (.tup (nD (acc ++ fillPart levels counter part)))), y4, y5] m := by
  have hlen := fillPart_len levels counter ho
  have hl1 : (nD acc).length + 1 ≤ line := by rw [nD_len]; omega
  have hl2 : (nD acc).length + (nD (fillPart levels counter part)).length ≤ line := by rw [nD_len, nD_len]; omega
  have hl3 : 1 ≤ line := by unfold line; omega
  cases part with
  | text t =>
    obtain ⟨c, rfl⟩ := ho
    exact ⟨_, _, by simp [partD, bindG, evSs, evS, evE, evEs, tst, cmpR, eq_int, blR, allD, binR, addR, guardR, hl1, hl3, fillPart, nD_app]; simp [nD]; exact ⟨rfl, rfl⟩⟩
  | level s k =>
    have hk : ¬ (k : Int) = 0 := by have := ho.1; omega
    have hk2 : k ≠ 0 := by have := ho.1; omega
    have hs : ¬ ((shN s : Int) = -1) := by omega
    have hx : levels.getD (k - 1) 0 < 10 ^ 19 := by
      rw [List.getD_eq_getElem?_getD]
      cases e : levels[k - 1]? with
      | none => simp
      | some y => exact hl y (List.mem_of_getElem? e)
    have e := r_shaped n (shN s) (levels.getD (k - 1) 0) m s (shp_shN s) hx
    have ep := pres_at levels k ho m
    generalize presD levels = pl at *
    unfold fillPart at hl2 ⊢
    dsimp only at hl2 ⊢
    generalize levels.getD (k - 1) 0 = lv at *
    exact ⟨_, _, by simp [partD, bindG, evSs, evS, evE, evEs, tst, cmpR, eq_int, blR, hs, hk, hk2, ep, e, binR, addR, guardR, hl2, nD_app]; exact ⟨rfl, rfl⟩⟩
  | counter s =>
    have hs : ¬ ((shN s : Int) = -1) := by omega
    have e := r_shaped n (shN s) counter m s (shp_shN s) hc
    unfold fillPart at hl2 ⊢
    dsimp only at hl2 ⊢
    exact ⟨_, _, by simp [partD, bindG, evSs, evS, evE, evEs, tst, cmpR, eq_int, blR, hs, e, binR, addR, guardR, hl2, nD_app]; exact ⟨rfl, rfl⟩⟩
theorem fi_loop (n : Nat) (m : Mu) (x0 : Option W) (levels : List Nat) (counter : Nat) (hc : counter < 10 ^ 19) (hl : ∀ x ∈ levels, x < 10 ^ 19) : ∀ (ps : List Kh454.Part) (acc : List Nat) (x4 x5 : Option W), (∀ p ∈ ps, okPart p) → acc.length + 40 * ps.length ≤ line →
    ∃ y4 y5, forGo (.t [4, 5]) (fun σ m => evSs (run dfs (n + 3)) σ m fiB) (ps.map fun p => .d (partD p)) [x0, some (.d (.lst (presD levels))), some (.d (.int (counter : Int))), some (.d (.tup (nD acc))), x4, x5] m =
      .next [x0, some (.d (.lst (presD levels))), some (.d (.int (counter : Int))), some (.d (.tup (nD (acc ++ ps.flatMap (fillPart levels counter))))), y4, y5] m
  | [], acc, x4, x5, _, _ => ⟨x4, x5, by simp [forGo]⟩
  | p :: ps, acc, x4, x5, ho, ha => by
    simp only [List.length_cons] at ha
    obtain ⟨z4, z5, e⟩ := fi_step n m x0 levels counter acc x4 x5 p (ho p List.mem_cons_self) hc hl (by omega)
    have hlen := fillPart_len levels counter (ho p List.mem_cons_self)
    obtain ⟨y4, y5, ih⟩ := fi_loop n m x0 levels counter hc hl ps (acc ++ fillPart levels counter p) z4 z5 (fun y hy => ho y (List.mem_cons_of_mem _ hy)) (by rw [List.length_append]; omega)
    refine ⟨y4, y5, ?_⟩
    rw [List.map_cons, forGo]
    cases hb : bindG [x0, some (.d (.lst (presD levels))), some (.d (.int (counter : Int))), some (.d (.tup (nD acc))), x4, x5] (.d (partD p)) (.t [4, 5]) with
    | none => rw [hb] at e; cases e
    | some σ1 =>
      rw [hb] at e
      dsimp only at e ⊢
      rw [e, SR.then_next, ih, List.flatMap_cons, List.append_assoc]
theorem r_filled (n : Nat) (ps : List Kh454.Part) (levels : List Nat) (counter : Nat) (m : Mu) (ho : ∀ p ∈ ps, okPart p) (hps : ps.length ≤ 1000) (hc : counter < 10 ^ 19) (hl : ∀ x ∈ levels, x < 10 ^ 19) :
    run dfs (n + 4) 14 [.d (.lst (ps.map partD)), .d (.lst (presD levels)), .d (.int (counter : Int))] m = .ok (.d (.tup (nD (Kh454.fillPattern levels counter ps)))) m := by
  rw [run_at (d := f_filled) rfl]
  obtain ⟨y4, y5, lp⟩ := fi_loop n m (some (.d (.lst (ps.map partD)))) levels counter hc hl ps [] none none ho (by unfold line; simp; omega)
  show endS m.length (evSs (run dfs (n + 3)) [some (.d (.lst (ps.map partD))), some (.d (.lst (presD levels))), some (.d (.int (counter : Int))), none, none, none] m b_filled) = _
  have e1 : evS (run dfs (n + 3)) [some (.d (.lst (ps.map partD))), some (.d (.lst (presD levels))), some (.d (.int (counter : Int))), none, none, none] m (.asg 3 (.tup .nil)) = .next [some (.d (.lst (ps.map partD))), some (.d (.lst (presD levels))), some (.d (.int (counter : Int))), some (.d (.tup (nD []))), none, none] m := by
    simp [evS, evE, evEs, allD, guardR, nD]
  have e2 : evIt (run dfs (n + 3)) [some (.d (.lst (ps.map partD))), some (.d (.lst (presD levels))), some (.d (.int (counter : Int))), some (.d (.tup (nD []))), none, none] m (.seq (.var 0)) = .ok (ps.map fun p => .d (partD p)) m := by
    simp [evIt, evE, itemsD]
  unfold b_filled
  rw [evSs, e1, SR.then_next, evSs, evS, e2, Res.toS_ok, lp, SR.then_next, ev_ret]
  simp [evE, endS, endR, fill_eq]
end S09P
end Cn

namespace Cn
namespace S09P
theorem pres_eq (levels : List Nat) : presD levels = D.int 0 :: cutZ (nD levels ++ List.replicate 6 (D.int 0)) none (some 6) := by
  have h : nD ((List.range 6).map fun i => levels.getD i 0) = cutZ (nD levels ++ List.replicate 6 (D.int 0)) none (some 6) := by
    match levels with
    | [] => rfl
    | [a] => rfl
    | [a, b] => rfl
    | [a, b, c] => rfl
    | [a, b, c, d] => rfl
    | [a, b, c, d, e] => rfl
    | a :: b :: c :: d :: e :: f :: r =>
      have c1 : clipZ (nD (a :: b :: c :: d :: e :: f :: r) ++ List.replicate 6 (D.int 0)).length (nD (a :: b :: c :: d :: e :: f :: r) ++ List.replicate 6 (D.int 0)).length (some 6) = 6 := by
        show min 6 (nD (a :: b :: c :: d :: e :: f :: r) ++ List.replicate 6 (D.int 0)).length = 6
        rw [List.length_append, nD_len]
        simp only [List.length_cons, List.length_replicate]
        omega
      have c2 : ∀ k, clipZ k 0 none = 0 := fun k => rfl
      unfold cutZ
      rw [c1, c2]
      rfl
  unfold presD
  rw [h]
theorem dal_len : ∀ (j : Nat) (bs : List Nat) (cs : List Nat), Kh450.decodeAllLoop j bs = some cs → cs.length ≤ bs.length
  | j, [], cs, h => by
    have e : Kh450.decodeAllLoop j [] = some [] := by cases j <;> rfl
    rw [e] at h; cases h; exact Nat.le_refl _
  | 0, a :: r, cs, h => by cases h
  | j + 1, a :: r, cs, h => by
    have hd : Kh450.decodeAllLoop (j + 1) (a :: r) = match dec a r with
      | none => none
      | some (c, rest) => (Kh450.decodeAllLoop j rest).map fun codes => c :: codes := by
      rw [← dec_eq]
      rfl
    rw [hd] at h
    cases hdd : dec a r with
    | none => rw [hdd] at h; cases h
    | some cr =>
      obtain ⟨c, rest⟩ := cr
      rw [hdd] at h
      dsimp only at h
      obtain ⟨q, q1, q2, q3⟩ := dec_cut hdd
      cases hz : Kh450.decodeAllLoop j rest with
      | none => rw [hz] at h; cases h
      | some ds =>
        rw [hz] at h
        cases h
        have ih := dal_len j rest ds hz
        have : (a :: r).length = q.length + rest.length := by rw [q1]; simp
        simp only [List.length_cons] at this ⊢
        omega
theorem r_filled_told (n : Nat) (counter : Nat) (levels pattern : List Nat) (m : Mu) (hc : counter < 10 ^ 19) (hl : ∀ x ∈ levels, x < 10 ^ 19) (hll : levels.length ≤ 20) (hp : pattern.length ≤ 600) :
    run dfs (n + 5) 17 [.d (.int (counter : Int)), .d (.lst (nD levels)), .d (.lst (nD pattern))] m =
      match Kh450.decodeAll pattern with
      | none => .exc ⟨0, [-24]⟩ m
      | some t => match Kh454.parsePattern t with
        | none => .exc ⟨0, [-22]⟩ m
        | some p => .ok (.d (.lst (.int ((Kh450.encodeAll (Kh454.fillPattern levels counter p)).length : Nat) :: nD (Kh450.encodeAll (Kh454.fillPattern levels counter p))))) m := by
  rw [run_at (d := f_filled_told) rfl]
  have et := r_text_of n pattern m (by omega)
  show endS m.length (evSs (run dfs (n + 4)) [some (.d (.int (counter : Int))), some (.d (.lst (nD levels))), some (.d (.lst (nD pattern))), none, none, none] m b_filled_told) = _
  unfold b_filled_told
  cases hd : Kh450.decodeAll pattern with
  | none =>
    rw [hd] at et
    dsimp only at et ⊢
    rw [evSs]
    simp [evS, evE, evEs, et, endS]
  | some t =>
    rw [hd] at et
    dsimp only at et ⊢
    have htl : t.length ≤ pattern.length := dal_len _ _ _ hd
    have ep := r_pieces (n + 2) t m (by omega)
    have s1 : evS (run dfs (n + 4)) [some (.d (.int (counter : Int))), some (.d (.lst (nD levels))), some (.d (.lst (nD pattern))), none, none, none] m (.asg 3 (.call 16 (.cons (.var 2) (.nil)))) = .next [some (.d (.int (counter : Int))), some (.d (.lst (nD levels))), some (.d (.lst (nD pattern))), some (.d (.tup (nD t))), none, none] m := by
      simp [evS, evE, evEs, et]
    have s2 : evS (run dfs (n + 4)) [some (.d (.int (counter : Int))), some (.d (.lst (nD levels))), some (.d (.lst (nD pattern))), some (.d (.tup (nD t))), none, none] m (.asg 4 (.lst .nil)) = .next [some (.d (.int (counter : Int))), some (.d (.lst (nD levels))), some (.d (.lst (nD pattern))), some (.d (.tup (nD t))), some (.d (.lst [])), none] m := by
      simp [evS, evE, evEs, allD, guardR]
    rw [evSs, s1, SR.then_next, evSs, s2, SR.then_next, evSs]
    cases hz : Kh454.parsePattern t with
    | none =>
      rw [hz] at ep
      dsimp only at ep ⊢
      simp [evS, evSs, evE, evEs, ep, catchR, endS]
    | some ps =>
      rw [hz] at ep
      dsimp only at ep ⊢
      obtain ⟨ok, hpl⟩ := ppl_ok _ _ _ hz
      have s3 : evS (run dfs (n + 4)) [some (.d (.int (counter : Int))), some (.d (.lst (nD levels))), some (.d (.lst (nD pattern))), some (.d (.tup (nD t))), some (.d (.lst [])), none] m (.tryR (.cons (.asg 4 (.call 13 (.cons (.var 3) (.nil)))) (.nil)) [1] 0 0 (-22)) = .next [some (.d (.int (counter : Int))), some (.d (.lst (nD levels))), some (.d (.lst (nD pattern))), some (.d (.tup (nD t))), some (.d (.lst (ps.map partD))), none] m := by
        simp [evS, evSs, evE, evEs, ep, catchR]
      have hadd : (nD levels).length + 6 ≤ line := by rw [nD_len]; unfold line; omega
      have s4 : evS (run dfs (n + 4)) [some (.d (.int (counter : Int))), some (.d (.lst (nD levels))), some (.d (.lst (nD pattern))), some (.d (.tup (nD t))), some (.d (.lst (ps.map partD))), none] m (.asg 5 (.bin .add (.lst (.cons (.int (0)) (.nil))) (.slT (.bin .add (.var 1) (.bin .mul (.lst (.cons (.int (0)) (.nil))) (.gi "MOST_LEVEL_numbering" (6)))) (.gi "MOST_LEVEL_numbering" (6))))) = .next [some (.d (.int (counter : Int))), some (.d (.lst (nD levels))), some (.d (.lst (nD pattern))), some (.d (.tup (nD t))), some (.d (.lst (ps.map partD))), some (.d (.lst (presD levels)))] m := by
        have hlen : (presD levels).length = 7 := by simp [presD, nD]
        have e := pres_eq levels
        have hcut : (cutZ (nD levels ++ List.replicate 6 (D.int 0)) none (some 6)).length = 6 := by
          rw [e] at hlen
          simpa using hlen
        rw [e]
        have h7 : 7 ≤ line := by unfold line; omega
        have h1 : 1 ≤ line := by unfold line; omega
        have hr : (List.replicate 6 [D.int 0]).flatten = List.replicate 6 (D.int 0) := rfl
        have h7' : 1 + 6 ≤ line := h7
        simp [evS, evE, evEs, allD, binR, addR, mulR, guardR, h1, hr, hadd, slR, rd, hcut, h7]
        have hcut' : (cutZ (nD levels ++ [D.int 0, D.int 0, D.int 0, D.int 0, D.int 0, D.int 0]) none (some 6)).length = 6 := hcut
        rw [hcut', if_pos h7']
        rfl
      have e1 := r_filled n ps levels counter m ok (by omega) hc hl
      have hfl := fill_len levels counter ps ok
      rw [← fill_eq] at hfl
      have hel := enc_len (Kh454.fillPattern levels counter ps)
      have e2 := r_encoded (n + 2) (Kh454.fillPattern levels counter ps) m (by unfold line; omega)
      have e3 := r_told (n + 3) (Kh450.encodeAll (Kh454.fillPattern levels counter ps)) m (by unfold line; omega)
      rw [s3, SR.then_next, evSs, s4, SR.then_next, ev_ret]
      simp [evE, evEs, e1, e2, e3, endS, endR]
theorem spec_of (counter : Nat) (levels pattern : List Nat) : PyKh454.fill counter (levels.map Int.ofNat) (pattern.map Int.ofNat) = match Kh450.decodeAll pattern with
      | none => [-24]
      | some t => match Kh454.parsePattern t with
        | none => [-22]
        | some p => ((Kh450.encodeAll (Kh454.fillPattern levels counter p)).length : Int) :: (Kh450.encodeAll (Kh454.fillPattern levels counter p)).map Int.ofNat := by
  have h : PyKh454.fill counter (levels.map Int.ofNat) (pattern.map Int.ofNat) = Kh454Neutral.integers (Kh454.answer (.fill counter ((levels.map Int.ofNat).map Int.toNat) ((pattern.map Int.ofNat).map Int.toNat))) := rfl
  have el : ∀ l : List Nat, (l.map Int.ofNat).map Int.toNat = l := by
    intro l
    rw [List.map_map]
    have : (Int.toNat ∘ Int.ofNat) = id := by funext x; rfl
    rw [this, List.map_id]
  rw [h, el, el]
  unfold Kh454.answer Kh450.withText
  dsimp only
  cases Kh450.decodeAll pattern with
  | none => rfl
  | some t =>
    dsimp only
    cases Kh454.parsePattern t with
    | none => rfl
    | some p => rfl
theorem r_fill (n : Nat) (counter : Nat) (levels pattern : List Nat) (m : Mu) (hc : counter < 10 ^ 19) (hl : ∀ x ∈ levels, x < 10 ^ 19) (hll : levels.length ≤ 20) (hp : pattern.length ≤ 600) :
    run dfs (n + 6) 18 [.d (.int (counter : Int)), .d (.lst (nD levels)), .d (.lst (nD pattern))] m = .ok (.d (.lst ((PyKh454.fill counter (levels.map Int.ofNat) (pattern.map Int.ofNat)).map .int))) m := by
  rw [run_at (d := f_fill) rfl, spec_of]
  have e := r_filled_told n counter levels pattern m hc hl hll hp
  cases hd : Kh450.decodeAll pattern with
  | none =>
    rw [hd] at e
    dsimp only at e ⊢
    simp [runD, f_fill, b_fill, start, evSs, evS, evE, evEs, e, endS, endR, catchF, fieldsF, List.range_succ]
  | some t =>
    rw [hd] at e
    dsimp only at e ⊢
    cases hz : Kh454.parsePattern t with
    | none =>
      rw [hz] at e
      dsimp only at e ⊢
      simp [runD, f_fill, b_fill, start, evSs, evS, evE, evEs, e, endS, endR, catchF, fieldsF, List.range_succ]
    | some p =>
      rw [hz] at e
      dsimp only at e ⊢
      have en : ∀ l : List Nat, l.map (fun x => D.int (Int.ofNat x)) = nD l := fun l => rfl
      simp [runD, f_fill, b_fill, start, evSs, evS, evE, evEs, e, endS, endR, catchF, Function.comp_def]
      rfl
end S09P
end Cn

namespace Cn
theorem nats_of {lo hi : Int} (h0 : 0 ≤ lo) : ∀ {l : List Int}, l.all (PySem.W.Codec.inInt lo hi) = true → ∃ ns : List Nat, l = ns.map Int.ofNat ∧ ∀ x ∈ ns, (x : Int) ≤ hi
  | [], _ => ⟨[], rfl, by simp⟩
  | i :: l, h => by
    rw [List.all_cons, Bool.and_eq_true] at h
    obtain ⟨a, b⟩ := PySem.W.Codec.inInt_iff.mp h.1
    obtain ⟨n, rfl⟩ := Int.eq_ofNat_of_zero_le (Int.le_trans h0 a)
    obtain ⟨ns, rfl, q⟩ := nats_of h0 h.2
    refine ⟨n :: ns, rfl, fun x hx => ?_⟩
    rcases List.mem_cons.mp hx with rfl | hx
    · exact b
    · exact q x hx
namespace S09
open PySem PySem.Spec PyProof.Rows L2
open PySem.W (OpenSpec Codec WData)
theorem ok_row {w : World} {h : Heap} {mg : Str → Option Value} {fa : Addr} (yy : hk.says w h) (gr : h.Ns mainGlobals mg) (hmg : mg "fill" = some (.ref fa)) : ∃ (K : PySem.W.Frag) (fd : FuncData) (sp : Sp), K.In h ∧
    (∀ (s : Shared) (us : List Value), us.length = 3 → BindsTo s fd ⟨us, []⟩ ((["counter", "levels", "pattern"] : List Str).zip us)) ∧
    (∀ base : Heap, K.In base → base.Ns mainGlobals mg → FnOk R.prog w K mg base (L2.CX R.prog w) 8 fa fd ["counter", "levels", "pattern"] sp) ∧
    ∀ (H : Hp) (xs : List V) (a : Codec.denoteAll R.args), OnlyF H → Codec.withinAll R.args a = true → Codec.app R.args R.asked a = true → DwAll K H xs (Codec.encAll R.args a) →
      sp xs H (fun v H' => Dw K H' v (R.ret.enc (Codec.app R.args R.f a))) fun _ _ _ => False := by
  obtain ⟨K, KX, c⟩ := yy
  have cd := c.t.d
  obtain ⟨fd0, F0⟩ := cd.def_ 18 (d := h_fill) rfl
  have bnd := FunD.bindsA (ps := ["counter", "levels", "pattern"]) F0 fun _ _ _ _ _ _ us hl => match us, hl with | [_, _, _], _ => rfl
  have all : ∀ base : Heap, K.In base → base.Ns mainGlobals mg → FnOk R.prog w K mg base (L2.CX R.prog w) 8 fa fd0 ["counter", "levels", "pattern"] (spA (T K) (xt K) (Cn.run dfs 6 18)) := by
    intro base hb1 hb2
    obtain ⟨a, fd, f1, f2, f3, f4⟩ := fnok (T := T K) rfl (glob (P := R.prog) (w := w) (base := base) KX gr cd c.more) 6 18 x_fill rfl
    have e := (f3 "fill" rfl).symm.trans hmg
    cases e
    have e2 : fd = fd0 := by
      obtain ⟨oc, od, dV, kV, doc, pm, an, cdv, ct, osl, _, l1, _⟩ := f1.ex
      obtain ⟨oc', od', dV', kV', doc', pm', an', cdv', ct', osl', _, l2, _⟩ := F0.ex
      have g : He.fAd K h_fill.at_ = fa := Option.some.inj (by
        have := He.glo_ok KX gr (cd.fact 18 (f := .glo "fill") rfl)
        rw [hmg] at this
        cases this
        rfl)
      rw [g] at l2
      have l1' : K.lookup fa = _ := l1
      rw [l1'] at l2
      cases l2
      rfl
    subst e2
    exact f4
  refine ⟨K, fd0, _, KX, bnd, all, fun H xs a only hin _ dw => ?_⟩
  obtain ⟨k, lv, pt, u⟩ := a
  have hn : noL (T K).K = true := ex_noL c.more
  cases dw with
  | cons d1 d2 =>
    cases d2 with
    | cons d3 d4 =>
      cases d4 with
      | cons d5 d6 =>
        cases d6
        have d3' : Dw (T K).K H _ (.list (lv.map WData.int)) := d3
        have d5' : Dw (T K).K H _ (.list (pt.map WData.int)) := d5
        cases d1
        have q : (Codec.inInt 0 4294967295 k && (Codec.inList 0 20 (Codec.inInt 0 4294967295) lv && (Codec.inList 0 600 (Codec.inInt 0 255) pt && true))) = true := hin
        rw [Bool.and_eq_true, Bool.and_eq_true, Bool.and_eq_true] at q
        obtain ⟨q1, q2, q3, _⟩ := q
        obtain ⟨k0, k1⟩ := Codec.inInt_iff.mp q1
        obtain ⟨kn, rfl⟩ := Int.eq_ofNat_of_zero_le k0
        unfold Codec.inList at q2 q3
        rw [Bool.and_eq_true] at q2 q3
        obtain ⟨ln, rfl, lb⟩ := nats_of (by decide) q2.2
        obtain ⟨pn, rfl, pb⟩ := nats_of (by decide) q3.2
        have z2 : ln.length ≤ 20 := by
          have := q2.1
          simpa [Codec.inLen, Codec.inNat] using this
        have z3 : pn.length ≤ 600 := by
          have := q3.1
          simpa [Codec.inLen, Codec.inNat] using this
        have r3 := rd_of hn d3'
        have r5 := rd_of hn d5'
        have em : ∀ ns : List Nat, (ns.map Int.ofNat).map D.int = nD ns := fun ns => by rw [List.map_map]; rfl
        rw [em] at r3 r5
        refine ⟨fun _ => none, H, [], [], [.d (.int kn), .d (.lst (nD ln)), .d (.lst (nD pn))], rel0 H, .cons (RD.int _) (.cons r3 (.cons r5 .nil)), ?_⟩
        have ran : Cn.run dfs 6 18 [.d (.int kn), .d (.lst (nD ln)), .d (.lst (nD pn))] [] = _ := S09P.r_fill 0 kn ln pn [] (by omega) (fun x hx => by have := lb x hx; omega) z2 z3
        rw [ran]
        intro F' ρ' H' R' _ _ v hv
        exact dw_of hv R'.sub
end S09
end Cn
open PySem PySem.W PyProof.Rows in
set_option maxHeartbeats 8000000 in
theorem PySem.Challenge.cw_crossnumbers_s09_fill_holds : PySem.Challenge.rw_crossnumbers_s09_fill.Holds := by
  w_on
  refine HandSHeadRun.head_spec (r := PySem.Challenge.rw_crossnumbers_s09_fill) (q := view PySem.Challenge.rw_crossnumbers_s09_fill.prog [39]) (H := Cn.S09.hk) (ob := Cn.S09.ob) (M := 9000) (loose := Cn.S09.nms) (kwd := []) Cn.S09.ob_eq (by kernel_rfl) (fun s => by kernel_rfl) Cn.S09.ranTop
    (by rfl) (by rfl) (by rfl) os_shapes (by first | assumption | decide +kernel) (by decide +kernel) ⟨rfl, rfl, rfl, rfl, rfl, by decide +kernel⟩ ?hw ?hc
  case hw => exact ⟨[.int 0, .list [], .list []], by decide +kernel, by decide +kernel⟩
  case hc =>
    refine Cn.walkE (depth := 8) (pars := ["counter", "levels", "pattern"]) (by decide +kernel) rfl ⟨rfl, by decide, by decide⟩ fun w mg fa h yy gr hmg => ?_
    exact Cn.S09.ok_row yy gr hmg

