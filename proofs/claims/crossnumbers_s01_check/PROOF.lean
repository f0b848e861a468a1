import PyProof.Rows.All
import Wide.All
import OpenK.AllK
import Wide.FinOn
import Open.SpecLaws
import KE.OsGo
import KE.DataEq
import HandS.ForSpec
import HandS.TryMany
import HandS.TupAny
import HandS.TupMul
import HandS.IsInst
import HandS.Dict
import HandS.Iter
import HandS.Zip
import HandS.Comp
import HandS.More
import HandS.Conv
import HandS.CallSlots
import HandS.ExcInit
import HandS.SuiteRaise
import HandS.RaiseFrom
import HandS.ExcInitHot
import HandS.HotCalls
import HandS.ExcField
import HandS.Defaults
import HandS.HeadEnd
import HandS.HeadHook1
import HandS.HeadHook2
import HandS.HeadHook3
import HandS.HeadHook4
import HandS.Spec
import HandS.Head4
import KE.KStateDown
import HandS.Words
import HandS.WordsExc
import HandS.Head0
import HandS.Head1
import HandS.Head2
import HandS.Head3
import PySem.Challenge.RW_crossnumbers_s01_check
set_option Elab.async false
set_option linter.all false
set_option maxRecDepth 100000
set_option maxHeartbeats 8000000
/-! # Cn: a small language of values without a heap, in which the program's defs are told again: data, statements, what they compute -/
namespace Cn

/-- a key of a dict -/
inductive Ky where
  | i (n : Int)
  | s (cs : List Nat)
  deriving DecidableEq

/-- data: what never changes. A text of ours (str) by its signs' codes; an instance by its class's place and its fields' values in order -/
inductive D where
  | non
  | bl (b : Bool)
  | int (i : Int)
  | str (cs : List Nat)
  | tup (xs : List D)
  | lst (xs : List D)
  | ins (c : Nat) (fs : List D)
  | dK (ks : List Ky) (vs : List D)
  | dT (ks : List (List Int)) (vs : List D)

/-- a value: data; a handle of an object that may change, of an inner object of it; a tuple that the module's top wrote; a closure (which lambda, what it has captured) -/
inductive W where
  | d (x : D)
  | h (n : Nat)
  | hi (n f : Nat)
  | kt (x : D)
  | clo (l : Nat) (cap : List D)

/-- what lies in an object: data, an inner object of its own -/
inductive U where
  | d (x : D)
  | i (f : Nat)

/-- an inner object: it holds data alone -/
inductive Fo where
  | lst (xs : List D)
  | dK (ks : List Ky) (vs : List D)
  | dT (ks : List (List Int)) (vs : List D)

/-- an object that may change: a list or an instance of such, or a plain one -/
inductive Ob where
  | lst (us : List U)
  | ins (c : Nat) (us : List U)
  | o (o : Fo)

/-- an object with its inner ones (none: gone) -/
structure Gr where
  root : Ob
  inn : List (Option Fo)

abbrev Mu := List (Option Gr)

/-- an exception: its class's place, its fields -/
structure Xn where
  cls : Nat
  fs : List Int

inductive Res (α : Type) where
  | ok (a : α) (m : Mu)
  | exc (x : Xn) (m : Mu)
  | stuck

/-- the longest list or tuple -/
def line : Nat := 16777216

def Res.bind {α β : Type} (r : Res α) (f : α → Mu → Res β) : Res β := match r with
  | .ok a m => f a m
  | .exc x m => .exc x m
  | .stuck => .stuck

@[simp] theorem Res.bind_ok {α β : Type} (a : α) (m : Mu) (f : α → Mu → Res β) : (Res.ok a m).bind f = f a m := rfl
@[simp] theorem Res.bind_exc {α β : Type} (x : Xn) (m : Mu) (f : α → Mu → Res β) : (Res.exc x m).bind f = .exc x m := rfl
@[simp] theorem Res.bind_stuck {α β : Type} (f : α → Mu → Res β) : (Res.stuck : Res α).bind f = .stuck := rfl

/-- a condition that must hold -/
def guardR {α : Type} (c : Bool) (r : Res α) : Res α := if c then r else .stuck
@[simp] theorem guardR_true {α : Type} (r : Res α) : guardR true r = r := rfl
theorem guardR_of {α : Type} {c : Bool} (h : c = true) (r : Res α) : guardR c r = r := by rw [h]; rfl

def optR {α : Type} (o : Option α) (m : Mu) : Res α := match o with
  | some a => .ok a m
  | none => .stuck
@[simp] theorem optR_some {α : Type} (a : α) (m : Mu) : optR (some a) m = .ok a m := rfl

/-! ### data -/
mutual
/-- no instance, no dict -/
def D.plain : D → Bool
  | .non => true
  | .bl _ => true
  | .int _ => true
  | .str _ => true
  | .tup xs => D.plains xs
  | .lst xs => D.plains xs
  | .ins _ _ => false
  | .dK _ _ => false
  | .dT _ _ => false
def D.plains : List D → Bool
  | [] => true
  | x :: r => D.plain x && D.plains r
end
mutual
def D.depth : D → Nat
  | .tup xs => D.depths xs + 1
  | .lst xs => D.depths xs + 1
  | .non => 0
  | .bl _ => 0
  | .int _ => 0
  | .str _ => 0
  | .ins _ _ => 0
  | .dK _ _ => 0
  | .dT _ _ => 0
def D.depths : List D → Nat
  | [] => 0
  | x :: r => max (D.depth x) (D.depths r)
end
def bI (b : Bool) : Int := if b then 1 else 0
mutual
/-- == -/
def D.eqv : D → D → Bool
  | .non, b => (match b with | .non => true | _ => false)
  | .bl a, b => (match b with | .bl c => a == c | .int j => bI a == j | _ => false)
  | .int i, b => (match b with | .bl c => i == bI c | .int j => i == j | _ => false)
  | .str x, b => (match b with | .str y => x == y | _ => false)
  | .tup xs, b => (match b with | .tup ys => D.eqvs xs ys | _ => false)
  | .lst xs, b => (match b with | .lst ys => D.eqvs xs ys | _ => false)
  | .ins _ _, _ => false
  | .dK _ _, _ => false
  | .dT _ _, _ => false
def D.eqvs : List D → List D → Bool
  | [], ys => ys.isEmpty
  | x :: r, ys => (match ys with | [] => false | y :: s => D.eqv x y && D.eqvs r s)
end

/-- the place that an index means -/
def ixZ (n : Nat) (i : Int) : Option Nat := if 0 ≤ i then (if i < n then some i.toNat else none) else if -(n : Int) ≤ i then some (i + n).toNat else none
def atZ {α : Type} (xs : List α) (i : Int) : Option α := (ixZ xs.length i).bind fun j => xs[j]?
/-- a slice's end -/
def clipZ (n d : Nat) : Option Int → Nat
  | none => d
  | some i => if i < 0 then (i + n).toNat else min i.toNat n
def cutZ {α : Type} (xs : List α) (lo hi : Option Int) : List α := (xs.drop (clipZ xs.length 0 lo)).take (clipZ xs.length xs.length hi - clipZ xs.length 0 lo)

def allD : List W → Option (List D)
  | [] => some []
  | .d x :: r => (match allD r with | some xs => some (x :: xs) | none => none)
  | _ :: _ => none
def allU : List U → Option (List D)
  | [] => some []
  | .d x :: r => (match allU r with | some xs => some (x :: xs) | none => none)
  | _ :: _ => none
/-- an item of a module's tuple as a value -/
def toK : D → W
  | .tup xs => .kt (.tup xs)
  | x => .d x
/-- no tuple: a module's tuple of such -/
def D.atom : D → Bool
  | .non => true
  | .bl _ => true
  | .int _ => true
  | .str _ => true
  | _ => false
def toU (n : Nat) : U → W
  | .d x => .d x
  | .i f => .hi n f
/-- a list of data that may change -/
def Ob.lstD : Ob → Option (List D)
  | .lst us => allU us
  | .o (.lst xs) => some xs
  | _ => none
def grAt (m : Mu) (n : Nat) : Option Gr := match m[n]? with
  | some (some g) => some g
  | _ => none
def inAt (m : Mu) (n f : Nat) : Option Fo := match grAt m n with
  | some g => (match g.inn[f]? with | some (some o) => some o | _ => none)
  | none => none
def rootAt (m : Mu) (n : Nat) : Option Ob := match grAt m n with
  | some g => some g.root
  | none => none
def setRoot (m : Mu) (n : Nat) (r : Ob) : Mu := match grAt m n with
  | some g => m.set n (some { g with root := r })
  | none => m
def setIn (m : Mu) (n f : Nat) (o : Option Fo) : Mu := match grAt m n with
  | some g => m.set n (some { g with inn := g.inn.set f o })
  | none => m
/-- the plain object behind a handle -/
def foAt (m : Mu) : W → Option Fo
  | .h n => (match rootAt m n with | some (.o o) => some o | _ => none)
  | .hi n f => inAt m n f
  | _ => none
def setFo (m : Mu) (o : Fo) : W → Mu
  | .h n => setRoot m n (.o o)
  | .hi n f => setIn m n f (some o)
  | _ => m
/-- what is to be read where a value is -/
def rd (m : Mu) : W → Option D
  | .d x => some x
  | .kt x => some x
  | .h n => (match rootAt m n with
    | some r => (match r.lstD with | some xs => some (.lst xs) | none => none)
    | none => none)
  | .hi n f => (match inAt m n f with
    | some (.lst xs) => some (.lst xs)
    | _ => none)
  | .clo _ _ => none
/-- its items -/
def items (m : Mu) : W → Option (List W)
  | .kt x => (match x with
    | .tup xs => some (xs.map toK)
    | _ => none)
  | .d (.str cs) => some (cs.map fun c => .d (.str [c]))
  | .d (.tup xs) => some (xs.map .d)
  | w => (match rd m w with
    | some (.lst xs) => some (xs.map .d)
    | _ => none)
/-- the items of what stays as it is -/
def itemsD : W → Option (List W)
  | .kt x => (match x with
    | .tup xs => some (xs.map toK)
    | _ => none)
  | .d (.str cs) => some (cs.map fun c => .d (.str [c]))
  | .d (.tup xs) => some (xs.map .d)
  | .d (.lst xs) => some (xs.map .d)
  | _ => none
def Fo.data : Fo → D
  | .lst xs => .lst xs
  | .dK ks vs => .dK ks vs
  | .dT ks vs => .dT ks vs
/-- what lies in an object, as data -/
def dataU (inn : List (Option Fo)) : List U → Option (List D)
  | [] => some []
  | .d x :: r => (match dataU inn r with | some xs => some (x :: xs) | none => none)
  | .i f :: r => (match inn[f]? with
    | some (some o) => (match dataU inn r with | some xs => some (o.data :: xs) | none => none)
    | _ => none)
def Gr.data (g : Gr) : Option D := match g.root with
  | .lst us => (match dataU g.inn us with | some xs => some (.lst xs) | none => none)
  | .ins c us => (match dataU g.inn us with | some xs => some (.ins c xs) | none => none)
  | .o o => some o.data
/-- an object becomes data -/
def fzR (m : Mu) : W → Res D
  | .d x => .ok x m
  | .h n => (match grAt m n with
    | some g => (match g.data with | some x => .ok x (m.set n none) | none => .stuck)
    | none => .stuck)
  | .hi n f => (match inAt m n f with
    | some o => .ok o.data (setIn m n f none)
    | none => .stuck)
  | _ => .stuck
/-- a new object -/
def newR (m : Mu) (o : Ob) : Res W := .ok (.h m.length) (m ++ [some ⟨o, []⟩])
/-- a list of one plain object, which goes over into it -/
def newU (m : Mu) (ws : List W) : Res W := match ws with
  | [.h k] => (match grAt m k with
    | some ⟨.o o, []⟩ => .ok (.h m.length) ((m.set k none) ++ [some ⟨.lst [.i 0], [some o]⟩])
    | _ => .stuck)
  | _ => .stuck
/-- what is stored into the object n: data; a plain object that goes over into it (it is the object n's own then) -/
def adopt (m : Mu) (n : Nat) : W → Res U
  | .d x => .ok (.d x) m
  | .h k => if k = n then .stuck else (match grAt m k, grAt m n with
    | some ⟨.o o, []⟩, some g => .ok (.i g.inn.length) ((m.set n (some { g with inn := g.inn ++ [some o] })).set k none)
    | _, _ => .stuck)
  | _ => .stuck

/-! ### dicts -/
def getA {κ α : Type} [DecidableEq κ] (k : κ) : List κ → List α → Option α
  | a :: r, v :: s => if a = k then some v else getA k r s
  | _, _ => none
/-- the values once more, v at k; none where k is new -/
def putA {κ α : Type} [DecidableEq κ] (k : κ) (v : α) (ks : List κ) (vs : List α) : Option (List α) :=
  if k ∈ ks then some (List.zipWith (fun a x => if a = k then v else x) ks vs) else none
def toKy : D → Option Ky
  | .int i => some (.i i)
  | .str cs => some (.s cs)
  | _ => none
def intD : D → Option Int
  | .int i => some i
  | _ => none
def intDs : List D → Option (List Int)
  | [] => some []
  | x :: r => (match intD x, intDs r with | some i, some t => some (i :: t) | _, _ => none)
def toKt : D → Option (List Int)
  | .tup xs => intDs xs
  | _ => none

/-! ### the language -/
inductive Bo where
  | add | sub | mul | fdiv | mod
  deriving DecidableEq
inductive Co where
  | eq | ne | lt | le | gt | ge | isN | notN | in_ | nin
  deriving DecidableEq
/-- built-ins of one argument -/
inductive Bi where
  | len | lenU | ord | tuple | any | all | str | int | max
  deriving DecidableEq
inductive Ty where
  | list | tuple | int | str
  deriving DecidableEq
/-- what a loop's turn stores into -/
inductive Tg where
  | n (i : Nat)
  | t (is : List Nat)

mutual
inductive E where
  | var (i : Nat)
  | int (i : Int) | str (cs : List Nat) | bl (b : Bool) | non
  /-- a module's number, its tuple -/
  | gi (x : String) (i : Int) | gt (x : String) (t : D)
  | fz (e : E)
  | bin (o : Bo) (a b : E)
  /-- a list that is to change: [..] * n -/
  | mulM (a b : E)
  | cmp (o : Co) (a b : E)
  | ch (o p : Co) (a b c : E)
  | ch3 (o p q : Co) (a b c d : E)
  | and2 (a b : E) | or2 (a b : E) | not (a : E)
  | ife (c a b : E)
  | tup (es : Es) | lst (es : Es) | lstM (es : Es) | lstU (es : Es) | dicM (t : Bool)
  | ix (a b : E)
  /-- a[b:c], a[b:], a[:c] -/
  | sl (a b c : E) | slF (a b : E) | slT (a c : E)
  | at (c f : Nat) (a : E)
  | call (f : Nat) (es : Es) | meth (c f : Nat) (o : E) (es : Es) | new (c : Nat) (f : Nat) (es : Es)
  | b1 (b : Bi) (a : E) | dm (a b : E) | isi (t : Ty) (a : E)
  /-- list(x): data, an object; dict(pairs) -/
  | list (a : E) | listM (a : E) | dict (t : Bool) (a : E) | rngL (a b : E)
  | app (a b : E) | ext (a b : E) | pop (a : E) | get (a k x : E)
  | lc (g : Tg) (it c el : E)
  /-- a in D, D[a], D a module's dict of numbers -/
  | gin (x : String) (ps : List (Int × Int)) (a : E) | gget (x : String) (ps : List (Int × Int)) (a : E)
  /-- a module's text; a in D, D[a], D a module's dict by texts -/
  | gs (x : String) (cs : List Nat) | ginS (x : String) (ps : List (List Nat × Int)) (a : E) | ggetS (x : String) (ps : List (List Nat × Int)) (a : E)
  /-- a comprehension whose elements may raise -/
  | lcx (g : Tg) (it c el : E)
  | cv (i : Nat) (es : Es) | lam (l : Nat) (is : List Nat)
inductive Es where
  | nil
  | cons (e : E) (es : Es)
end

inductive It where
  | seq (e : E) | rng (a b : E) | enu (e : E) | zip (a b : E)

mutual
inductive S where
  | asg (i : Nat) (e : E) | asgT (is : List Nat) (e : E)
  /-- (no Python) slot i's object becomes data -/
  | fzs (i : Nat)
  | seta (c f : Nat) (o e : E) | setx (o k e : E) | setl (o k e : E) | auga (c f : Nat) (b : Bo) (o e : E) | augx (b : Bo) (o k e : E) | augl (b : Bo) (o k e : E)
  | ex (e : E) | ret (e : E) | if_ (c : E) (a b : Ss) | wh (c : E) (b : Ss) | for_ (g : Tg) (it : It) (b : Ss)
  | rais (c : Nat) (f : Nat) (es : Es)
  /-- try: b; except C: x = None -/
  | tryN (b : Ss) (c : Nat) (i : Nat)
  /-- try: b; except C as n: return [n.f, ..] -/
  | tryF (b : Ss) (c i : Nat) (fs : List Nat)
  /-- try: b; except (C, ..): raise X(k) from None -/
  | tryR (b : Ss) (cs : List Nat) (x : Nat) (f : Nat) (k : Int)
  | base
inductive Ss where
  | nil
  | cons (s : S) (r : Ss)
end

/-! ### what it computes -/
abbrev Sl := List (Option W)
abbrev Calls := Nat → List W → Mu → Res W

def isInt : W → Option Int
  | .d (.int i) => some i
  | _ => none
def isBl : W → Option Bool
  | .d (.bl b) => some b
  | _ => none
def rInt (o : Option Int) (m : Mu) : Res W := match o with | some i => .ok (.d (.int i)) m | none => .stuck
def addR (m : Mu) : W → W → Res W
  | .d (.int i), .d (.int j) => .ok (.d (.int (i + j))) m
  | .d (.str x), .d (.str y) => guardR (decide (x.length + y.length ≤ line)) (.ok (.d (.str (x ++ y))) m)
  | .d (.tup x), .d (.tup y) => guardR (decide (x.length + y.length ≤ line)) (.ok (.d (.tup (x ++ y))) m)
  | .d (.tup x), .kt (.tup y) => guardR (decide (x.length + y.length ≤ line) && y.all D.atom && !x.isEmpty) (.ok (.d (.tup (x ++ y))) m)
  | .d (.lst x), .d (.lst y) => guardR (decide (x.length + y.length ≤ line)) (.ok (.d (.lst (x ++ y))) m)
  | _, _ => .stuck
def subR (m : Mu) : W → W → Res W
  | .d (.int i), .d (.int j) => .ok (.d (.int (i - j))) m
  | _, _ => .stuck
def mulR (m : Mu) : W → W → Res W
  | .d (.int i), .d (.int j) => guardR (decide (-(2 ^ 64) < i) && decide (i < 2 ^ 64)) (.ok (.d (.int (i * j))) m)
  | .d (.tup x), .d (.int j) => guardR (decide (0 ≤ j) && decide (j < 1000) && decide (x.length ≤ 1000)) (.ok (.d (.tup (List.replicate j.toNat x).flatten)) m)
  | .d (.lst x), .d (.int j) => guardR (decide (0 ≤ j) && decide (j < 1000) && decide (x.length ≤ 1000)) (.ok (.d (.lst (List.replicate j.toNat x).flatten)) m)
  | _, _ => .stuck
def fdivR (m : Mu) : W → W → Res W
  | .d (.int i), .d (.int j) => guardR (decide (0 < j) && decide (j < 1073741824)) (.ok (.d (.int (i / j))) m)
  | _, _ => .stuck
def modR (m : Mu) : W → W → Res W
  | .d (.int i), .d (.int j) => guardR (decide (0 < j)) (.ok (.d (.int (i % j))) m)
  | _, _ => .stuck
def binR (m : Mu) : Bo → W → W → Res W
  | .add => addR m
  | .sub => subR m
  | .mul => mulR m
  | .fdiv => fdivR m
  | .mod => modR m
def dmR (m : Mu) : W → W → Res W
  | .d (.int i), .d (.int j) => guardR (decide (0 < j) && decide (j < 1073741824)) (.ok (.d (.tup [.int (i / j), .int (i % j)])) m)
  | _, _ => .stuck
def mulMR (m : Mu) : W → W → Res W
  | .d (.lst x), .d (.int j) => guardR (decide (0 ≤ j) && decide (j < 1000) && decide (x.length ≤ 1000)) (newR m (.o (.lst (List.replicate j.toNat x).flatten)))
  | _, _ => .stuck
def ordR (m : Mu) (p : Int → Int → Bool) : W → W → Res Bool
  | .d (.int i), .d (.int j) => .ok (p i j) m
  | _, _ => .stuck
def eqR (m : Mu) (a b : W) : Res Bool := match rd m a, rd m b with
  | some x, some y => guardR (x.plain && y.plain && decide (min x.depth y.depth ≤ 64)) (.ok (x.eqv y) m)
  | _, _ => .stuck
/-- the dict that is to be read where a value is -/
def dicOf (m : Mu) : W → Option Fo
  | .d (.dK ks vs) => some (.dK ks vs)
  | .d (.dT ks vs) => some (.dT ks vs)
  | .d _ => none
  | w => foAt m w
/-- a in b: in a tuple or a list; in a dict -/
def inSeq (m : Mu) (a b : W) : Res Bool := match rd m a, rd m b with
  | some x, some (.tup ys) => guardR (x.plain && D.plains ys && decide (min (D.depths ys) x.depth ≤ 64)) (.ok (ys.any fun y => y.eqv x) m)
  | some x, some (.lst ys) => guardR (x.plain && D.plains ys && decide (min (D.depths ys) x.depth ≤ 64)) (.ok (ys.any fun y => y.eqv x) m)
  | _, _ => .stuck
def inR (m : Mu) (a b : W) : Res Bool := match dicOf m b with
  | some (.dK ks _) => (match a with | .d x => (match toKy x with | some k => .ok (ks.contains k) m | none => .stuck) | _ => .stuck)
  | some (.dT ks _) => (match a with | .d x => (match toKt x with | some k => .ok (ks.contains k) m | none => .stuck) | _ => .stuck)
  | _ => inSeq m a b
def notR : Res Bool → Res Bool
  | .ok b m => .ok (!b) m
  | .exc x m => .exc x m
  | .stuck => .stuck
def noneR (m : Mu) : W → Res Bool
  | .d .non => .ok true m
  | .d _ => .ok false m
  | _ => .stuck
def isNR (m : Mu) (a : W) : W → Res Bool
  | .d .non => noneR m a
  | _ => .stuck
def cmpR (m : Mu) : Co → W → W → Res Bool
  | .lt, a, b => ordR m (fun i j => decide (i < j)) a b
  | .le, a, b => ordR m (fun i j => decide (i ≤ j)) a b
  | .gt, a, b => ordR m (fun i j => decide (j < i)) a b
  | .ge, a, b => ordR m (fun i j => decide (j ≤ i)) a b
  | .eq, a, b => eqR m a b
  | .ne, a, b => notR (eqR m a b)
  | .in_, a, b => inR m a b
  | .nin, a, b => notR (inR m a b)
  | .isN, a, b => isNR m a b
  | .notN, a, b => notR (isNR m a b)
def blR (r : Res Bool) : Res W := r.bind fun b m => .ok (.d (.bl b)) m
def getK (m : Mu) (a : W) (k : Ky) : Res W := match dicOf m a with
  | some (.dK ks vs) => (match getA k ks vs with | some x => .ok (.d x) m | none => .stuck)
  | _ => .stuck
def ixR (m : Mu) (a b : W) : Res W := match b with
  | .d (.int i) => (match a with
    | .d (.tup xs) => (match atZ xs i with | some x => .ok (.d x) m | none => .stuck)
    | .d (.lst xs) => (match atZ xs i with | some x => .ok (.d x) m | none => .stuck)
    | .d (.str cs) => guardR (decide (cs.length ≤ line)) (match atZ cs i with | some c => .ok (.d (.str [c])) m | none => .stuck)
    | .kt (.tup xs) => (match atZ xs i with | some x => .ok (toK x) m | none => .stuck)
    | .h n => (match rootAt m n with
      | some (.lst us) => (match atZ us i with | some u => .ok (toU n u) m | none => .stuck)
      | some (.o (.lst xs)) => (match atZ xs i with | some x => .ok (.d x) m | none => .stuck)
      | _ => getK m a (.i i))
    | .hi n f => (match inAt m n f with
      | some (.lst xs) => (match atZ xs i with | some x => .ok (.d x) m | none => .stuck)
      | _ => getK m a (.i i))
    | a => getK m a (.i i))
  | .d (.str cs) => getK m a (.s cs)
  | _ => .stuck
def slR (m : Mu) (a : W) (lo hi : Option Int) : Res W := match rd m a with
  | some (.tup xs) => (match a with | .d _ => .ok (.d (.tup (cutZ xs lo hi))) m | _ => .stuck)
  | some (.lst xs) => .ok (.d (.lst (cutZ xs lo hi))) m
  | _ => .stuck
def atR (m : Mu) (c f : Nat) : W → Res W
  | .d (.ins k fs) => if k = c then (match fs[f]? with | some x => .ok (.d x) m | none => .stuck) else .stuck
  | .h n => (match rootAt m n with
    | some (.ins k us) => if k = c then (match us[f]? with | some u => .ok (toU n u) m | none => .stuck) else .stuck
    | _ => .stuck)
  | _ => .stuck
def clsR (m : Mu) : W → Option Nat
  | .d (.ins c _) => some c
  | .h n => (match rootAt m n with
    | some (.ins c _) => some c
    | _ => none)
  | _ => none
def blD : D → Option Bool
  | .bl b => some b
  | _ => none
def blDs : List D → Option (List Bool)
  | [] => some []
  | x :: r => (match blD x, blDs r with | some i, some t => some (i :: t) | _, _ => none)
def digits (n : Nat) : List Nat := (Nat.toDigits 10 n).map Char.toNat
def strI (i : Int) : List Nat := match i with
  | .ofNat n => digits n
  | .negSucc n => 45 :: digits (n + 1)
def b1R (m : Mu) : Bi → W → Res W
  | .len, a => (match items m a with | some ws => guardR (decide (ws.length ≤ line)) (.ok (.d (.int ws.length)) m) | none => .stuck)
  | .lenU, a => (match a with
    | .h n => (match rootAt m n with
      | some (.lst us) => guardR (decide (us.length ≤ line)) (.ok (.d (.int us.length)) m)
      | _ => .stuck)
    | _ => .stuck)
  | .ord, .d (.str [c]) => .ok (.d (.int c)) m
  | .tuple, a => (match rd m a with
    | some (.lst xs) => .ok (.d (.tup xs)) m
    | _ => .stuck)
  | .any, a => (match rd m a with | some (.lst xs) => (match blDs xs with | some bs => .ok (.d (.bl (bs.any id))) m | none => .stuck) | _ => .stuck)
  | .all, a => (match rd m a with | some (.lst xs) => (match blDs xs with | some bs => .ok (.d (.bl (bs.all id))) m | none => .stuck) | _ => .stuck)
  | .max, a => (match rd m a with | some (.lst xs) => (match intDs xs with | some (i :: is) => .ok (.d (.int (is.foldl max i))) m | _ => .stuck) | _ => .stuck)
  | .str, .d (.int i) => guardR (decide (i.natAbs < 2 ^ 1919)) (.ok (.d (.str (strI i))) m)
  | .int, .d (.bl b) => .ok (.d (.int (bI b))) m
  | _, _ => .stuck
def isiR (m : Mu) : Ty → W → Res Bool
  | t, .d x => (match x with
    | .lst _ => .ok (t == .list) m
    | .tup _ => .ok (t == .tuple) m
    | .int _ => .ok (t == .int) m
    | .str _ => .ok (t == .str) m
    | _ => .stuck)
  | _, _ => .stuck
def listR (m : Mu) (a : W) : Res (List D) := match a with
  | .kt _ => .stuck
  | a => (match rd m a with
    | some (.tup xs) => .ok xs m
    | some (.lst xs) => .ok xs m
    | _ => .stuck)
def pairs : List D → Option (List D × List D)
  | [] => some ([], [])
  | .tup [k, v] :: r => (match pairs r with | some (ks, vs) => some (k :: ks, v :: vs) | none => none)
  | _ :: _ => none
def toKys : List D → Option (List Ky)
  | [] => some []
  | x :: r => (match toKy x, toKys r with | some i, some t => some (i :: t) | _, _ => none)
def toKts : List D → Option (List (List Int))
  | [] => some []
  | x :: r => (match toKt x, toKts r with | some i, some t => some (i :: t) | _, _ => none)
/-- the pairs put in, one after another -/
def mergeA {κ α : Type} [DecidableEq κ] : List κ → List α → List κ → List α → List κ × List α
  | ks, vs, k :: r, v :: s => (match putA k v ks vs with
    | some vs' => mergeA ks vs' r s
    | none => mergeA (ks ++ [k]) (vs ++ [v]) r s)
  | ks, vs, _, _ => (ks, vs)
def dictR (m : Mu) (t : Bool) (a : W) : Res W := match rd m a with
  | some (.lst ps) => (match pairs ps with
    | some (ks, vs) => guardR (decide (ks.length ≤ line)) (match t with
      | false => (match toKys ks with | some ks => newR m (.o (.dK (mergeA [] [] ks vs).1 (mergeA [] [] ks vs).2)) | none => .stuck)
      | true => (match toKts ks with | some ks => newR m (.o (.dT (mergeA [] [] ks vs).1 (mergeA [] [] ks vs).2)) | none => .stuck))
    | none => .stuck)
  | _ => .stuck
/-- a list that may change -/
def isLst (m : Mu) : W → Bool
  | .h n => (match rootAt m n with
    | some (.lst _) => true
    | some (.o (.lst _)) => true
    | _ => false)
  | .hi n f => (match inAt m n f with
    | some (.lst _) => true
    | _ => false)
  | _ => false
def isDic (m : Mu) (w : W) : Bool := match dicOf m w with
  | some (.dK _ _) => true
  | some (.dT _ _) => true
  | _ => false
/-- a plain list takes data -/
def appFo (m : Mu) (a : W) (x : W) : Res W := match foAt m a, x with
  | some (.lst xs), .d x => guardR (decide (xs.length < line)) (.ok (.d .non) (setFo m (.lst (xs ++ [x])) a))
  | _, _ => .stuck
def appR (m : Mu) (a b : W) : Res W := match a with
  | .h n => (match rootAt m n with
    | some (.lst us) => guardR (decide (us.length < line)) ((adopt m n b).bind fun u m => .ok (.d .non) (setRoot m n (.lst (us ++ [u]))))
    | _ => appFo m a b)
  | a => appFo m a b
def extR (m : Mu) (a b : W) : Res W := match foAt m a, b with
  | some (.lst xs), .d (.lst ys) => guardR (decide (xs.length + ys.length ≤ line)) (.ok (.d .non) (setFo m (.lst (xs ++ ys)) a))
  | _, _ => .stuck
def popR (m : Mu) (a : W) : Res W := match a with
  | .h n => (match rootAt m n with
    | some (.lst us) => (match us[us.length - 1]? with | some u => .ok (toU n u) (setRoot m n (.lst us.dropLast)) | none => .stuck)
    | some (.o (.lst xs)) => (match xs[xs.length - 1]? with | some x => .ok (.d x) (setRoot m n (.o (.lst xs.dropLast))) | none => .stuck)
    | _ => .stuck)
  | _ => .stuck
def getR (m : Mu) (a k x : W) : Res W := match k with
  | .d k => (match dicOf m a with
    | some (.dK ks vs) => (match toKy k with | some k => (match getA k ks vs with | some v => .ok (.d v) m | none => .ok x m) | none => .stuck)
    | some (.dT ks vs) => (match toKt k with | some k => (match getA k ks vs with | some v => .ok (.d v) m | none => .ok x m) | none => .stuck)
    | _ => .stuck)
  | _ => .stuck
def stKy (m : Mu) (o : W) (ks : List Ky) (vs : List D) (k : Ky) (x : D) : Res Unit :=
  guardR (decide (ks.length < line)) (match putA k x ks vs with
    | some us => .ok () (setFo m (.dK ks us) o)
    | none => .ok () (setFo m (.dK (ks ++ [k]) (vs ++ [x])) o))
def stKt (m : Mu) (o : W) (ks : List (List Int)) (vs : List D) (k : List Int) (x : D) : Res Unit :=
  guardR (decide (ks.length < line)) (match putA k x ks vs with
    | some us => .ok () (setFo m (.dT ks us) o)
    | none => .ok () (setFo m (.dT (ks ++ [k]) (vs ++ [x])) o))
/-- o[k] = w -/
def stx (m : Mu) (o k w : W) : Res Unit := match foAt m o, k, w with
  | some (.dK ks vs), .d k, .d x => (match toKy k with | some k => stKy m o ks vs k x | none => .stuck)
  | some (.dT ks vs), .d k, .d x => (match toKt k with | some k => stKt m o ks vs k x | none => .stuck)
  | _, _, _ => .stuck
/-- o[k] = w, a list -/
def stl (m : Mu) (o k w : W) : Res Unit := match foAt m o, k, w with
  | some (.lst xs), .d (.int i), .d x => (match ixZ xs.length i with | some j => .ok () (setFo m (.lst (xs.set j x)) o) | none => .stuck)
  | _, _, _ => .stuck
/-- d[k] of a dict that may change -/
def getR0 (m : Mu) (a b : W) : Res W := match foAt m a, b with
  | some (.dK ks vs), .d k => (match toKy k with | some k => (match getA k ks vs with | some x => .ok (.d x) m | none => .stuck) | none => .stuck)
  | some (.dT ks vs), .d k => (match toKt k with | some k => (match getA k ks vs with | some x => .ok (.d x) m | none => .stuck) | none => .stuck)
  | _, _ => .stuck
/-- l[i] of a plain list that may change -/
def ixL (m : Mu) (a b : W) : Res W := match foAt m a, b with
  | some (.lst xs), .d (.int i) => (match atZ xs i with | some x => .ok (.d x) m | none => .stuck)
  | _, _ => .stuck
/-- numbers alone -/
def augR (m : Mu) (b : Bo) (v w : W) : Res W := match b, v, w with
  | .add, .d (.int i), .d (.int j) => .ok (.d (.int (i + j))) m
  | .sub, .d (.int i), .d (.int j) => .ok (.d (.int (i - j))) m
  | _, _, _ => .stuck
/-- what was put in goes out where it must be None -/
def nonR {α : Type} (w : W) (r : Res α) : Res α := match w with
  | .d .non => r
  | _ => .stuck
@[simp] theorem nonR_non {α : Type} (r : Res α) : nonR (.d .non) r = r := rfl
/-- a field: it stands, or it is the next one -/
def sta (m : Mu) (c f : Nat) (o w : W) : Res Unit := match o with
  | .h n => (match rootAt m n with
    | some (.ins k us) => if k = c then
        (if f < us.length then (adopt m n w).bind fun u m => .ok () (setRoot m n (.ins c (us.set f u)))
        else if f = us.length then (adopt m n w).bind fun u m => .ok () (setRoot m n (.ins c (us ++ [u]))) else .stuck)
      else .stuck
    | _ => .stuck)
  | _ => .stuck
def bindG (σ : Sl) (w : W) : Tg → Option Sl
  | .n i => some (σ.set i (some w))
  | .t is => (match w with
    | .d (.tup xs) => if xs.length = is.length then some ((is.zip xs).foldl (fun σ p => σ.set p.1 (some (.d p.2))) σ) else none
    | .kt (.tup xs) => if xs.length = is.length then some ((is.zip xs).foldl (fun σ p => σ.set p.1 (some (toK p.2))) σ) else none
    | _ => none)
/-- the slots of a target -/
def tgs : Tg → List Nat
  | .n i => [i]
  | .t is => is
/-- slots forgotten -/
def wipeS (σ : Sl) : List Nat → Sl
  | [] => σ
  | v :: vs => (wipeS σ vs).set v none
/-- nothing raised -/
def Res.nox {α : Type} (r : Res α) : Res α := match r with
  | .ok a m => .ok a m
  | .exc _ _ => .stuck
  | .stuck => .stuck
@[simp] theorem Res.nox_ok {α : Type} (a : α) (m : Mu) : (Res.ok a m).nox = .ok a m := rfl
/-- a comprehension's turns: what is made -/
def lcGo (σ : Sl) (g : Tg) (c el : Sl → Mu → Res W) : List W → Mu → Res (List D)
  | [], m => .ok [] m
  | x :: r, m => (match bindG σ x g with
    | some σ1 => (c σ1 m).nox.bind fun b m1 => (match b with
      | .d (.bl true) => (el σ1 m1).nox.bind fun y m2 => (match y with
        | .d z => (lcGo σ g c el r m2).bind fun zs m3 => .ok (z :: zs) m3
        | _ => .stuck)
      | .d (.bl false) => lcGo σ g c el r m1
      | _ => .stuck)
    | none => .stuck)

/-- the same, the elements may raise -/
def lcxGo (σ : Sl) (g : Tg) (c el : Sl → Mu → Res W) : List W → Mu → Res (List D)
  | [], m => .ok [] m
  | x :: r, m => (match bindG σ x g with
    | some σ1 => (c σ1 m).nox.bind fun b m1 => (match b with
      | .d (.bl true) => (el σ1 m1).bind fun y m2 => (match y with
        | .d z => (lcxGo σ g c el r m2).bind fun zs m3 => .ok (z :: zs) m3
        | _ => .stuck)
      | .d (.bl false) => lcxGo σ g c el r m1
      | _ => .stuck)
    | none => .stuck)
def ginSR (ps : List (List Nat × Int)) (m : Mu) : W → Res W
  | .d (.str cs) => .ok (.d (.bl (ps.lookup cs).isSome)) m
  | _ => .stuck
def ggetSR (ps : List (List Nat × Int)) (m : Mu) : W → Res W
  | .d (.str cs) => (match ps.lookup cs with | some j => .ok (.d (.int j)) m | none => .stuck)
  | _ => .stuck
def ginR (ps : List (Int × Int)) (m : Mu) : W → Res W
  | .d (.int i) => .ok (.d (.bl (ps.lookup i).isSome)) m
  | _ => .stuck
def ggetR (ps : List (Int × Int)) (m : Mu) : W → Res W
  | .d (.int i) => (match ps.lookup i with | some j => .ok (.d (.int j)) m | none => .stuck)
  | _ => .stuck
section
variable (C : Calls)
mutual
def evE (σ : Sl) (m : Mu) : E → Res W
  | .var i => (match σ[i]? with | some (some w) => .ok w m | _ => .stuck)
  | .int i => .ok (.d (.int i)) m
  | .str cs => .ok (.d (.str cs)) m
  | .bl b => .ok (.d (.bl b)) m
  | .non => .ok (.d .non) m
  | .gi _ i => .ok (.d (.int i)) m
  | .gt _ t => .ok (.kt t) m
  | .fz e => (evE σ m e).bind fun w m => (fzR m w).bind fun x m => .ok (.d x) m
  | .bin o a b => (evE σ m a).bind fun x m => (evE σ m b).bind fun y m => binR m o x y
  | .mulM a b => (evE σ m a).bind fun x m => (evE σ m b).bind fun y m => mulMR m x y
  | .cmp o a b => (evE σ m a).bind fun x m => (evE σ m b).bind fun y m => blR (cmpR m o x y)
  | .ch o p a b c => (evE σ m a).bind fun x m => (evE σ m b).bind fun y m => (cmpR m o x y).bind fun k m =>
      if k then (evE σ m c).bind fun z m => blR (cmpR m p y z) else .ok (.d (.bl false)) m
  | .ch3 o p q a b c d => (evE σ m a).bind fun x m => (evE σ m b).bind fun y m => (cmpR m o x y).bind fun k m =>
      if k then (evE σ m c).bind fun z m => (cmpR m p y z).bind fun k m => if k then (evE σ m d).bind fun u m => blR (cmpR m q z u) else .ok (.d (.bl false)) m
      else .ok (.d (.bl false)) m
  | .and2 a b => (evE σ m a).bind fun x m => (match x with | .d (.bl true) => evE σ m b | .d (.bl false) => .ok (.d (.bl false)) m | _ => .stuck)
  | .or2 a b => (evE σ m a).bind fun x m => (match x with | .d (.bl false) => evE σ m b | .d (.bl true) => .ok (.d (.bl true)) m | _ => .stuck)
  | .not a => (evE σ m a).bind fun x m => (match x with | .d (.bl b) => .ok (.d (.bl (!b))) m | _ => .stuck)
  | .ife c a b => (evE σ m c).bind fun x m => (match x with | .d (.bl true) => evE σ m a | .d (.bl false) => evE σ m b | _ => .stuck)
  | .tup es => (evEs σ m es).bind fun ws m => (match allD ws with | some xs => guardR (decide (xs.length ≤ line)) (.ok (.d (.tup xs)) m) | none => .stuck)
  | .lst es => (evEs σ m es).bind fun ws m => (match allD ws with | some xs => guardR (decide (xs.length ≤ line)) (.ok (.d (.lst xs)) m) | none => .stuck)
  | .lstM es => (evEs σ m es).bind fun ws m => (match allD ws with | some xs => guardR (decide (xs.length ≤ line)) (newR m (.o (.lst xs))) | none => .stuck)
  | .lstU es => (evEs σ m es).bind fun ws m => newU m ws
  | .dicM t => newR m (.o (if t then .dT [] [] else .dK [] []))
  | .ix a b => (evE σ m a).bind fun x m => (evE σ m b).bind fun y m => ixR m x y
  | .sl a b c => (evE σ m a).bind fun x m => (evE σ m b).bind fun y m => (match y with
    | .d (.int i) => (evE σ m c).bind fun z m => (match z with | .d (.int j) => slR m x (some i) (some j) | _ => .stuck)
    | _ => .stuck)
  | .slF a b => (evE σ m a).bind fun x m => (evE σ m b).bind fun y m => (match y with | .d (.int i) => slR m x (some i) none | _ => .stuck)
  | .slT a c => (evE σ m a).bind fun x m => (evE σ m c).bind fun y m => (match y with | .d (.int i) => slR m x none (some i) | _ => .stuck)
  | .at c f a => (evE σ m a).bind fun x m => atR m c f x
  | .call f es => (evEs σ m es).bind fun ws m => C f ws m
  | .meth c f o es => (evE σ m o).bind fun x m => (match clsR m x with
    | some k => if k = c then (evEs σ m es).bind fun ws m => C f (x :: ws) m else .stuck
    | none => .stuck)
  | .new c f es => (evEs σ m es).bind fun ws m => (C f (.h m.length :: ws) (m ++ [some ⟨.ins c [], []⟩])).bind fun w m1 => nonR w (.ok (.h m.length) m1)
  | .b1 b a => (evE σ m a).bind fun x m => b1R m b x
  | .dm a b => (evE σ m a).bind fun x m => (evE σ m b).bind fun y m => dmR m x y
  | .isi t a => (evE σ m a).bind fun x m => blR (isiR m t x)
  | .list a => (evE σ m a).bind fun x m => (listR m x).bind fun xs m => .ok (.d (.lst xs)) m
  | .listM a => (evE σ m a).bind fun x m => (listR m x).bind fun xs m => newR m (.o (.lst xs))
  | .dict t a => (evE σ m a).bind fun x m => dictR m t x
  | .rngL a b => (evE σ m a).bind fun x m => (evE σ m b).bind fun y m => (match x, y with
    | .d (.int i), .d (.int j) => guardR (decide (-(2 ^ 30) ≤ i) && decide (i < 2 ^ 30) && decide (-(2 ^ 30) ≤ j) && decide (j < 2 ^ 30) && decide ((j - i).toNat ≤ line)) (.ok (.d (.lst ((List.range (j - i).toNat).map fun (k : Nat) => .int (i + k)))) m)
    | _, _ => .stuck)
  | .app a b => (evE σ m a).bind fun x m => guardR (isLst m x) ((evE σ m b).bind fun y m => appR m x y)
  | .ext a b => (evE σ m a).bind fun x m => guardR (isLst m x) ((evE σ m b).bind fun y m => extR m x y)
  | .pop a => (evE σ m a).bind fun x m => popR m x
  | .get a k x => (evE σ m a).bind fun a m => guardR (isDic m a) ((evE σ m k).bind fun k m => (evE σ m x).bind fun x m => getR m a k x)
  | .lc g it c el => ((evE σ m it).bind fun x m => optR (itemsD x) m).bind fun us m =>
      (lcGo (wipeS σ (tgs g)) g (fun σ m => evE σ m c) (fun σ m => evE σ m el) us m).bind fun xs m => guardR (decide (xs.length ≤ line)) (.ok (.d (.lst xs)) m)
  | .gin _ ps a => (evE σ m a).bind fun x m => ginR ps m x
  | .gget _ ps a => (evE σ m a).bind fun x m => ggetR ps m x
  | .gs _ cs => .ok (.d (.str cs)) m
  | .ginS _ ps a => (evE σ m a).bind fun x m => ginSR ps m x
  | .ggetS _ ps a => (evE σ m a).bind fun x m => ggetSR ps m x
  | .lcx g it c el => ((evE σ m it).bind fun x m => optR (itemsD x) m).bind fun us m =>
      (lcxGo (wipeS σ (tgs g)) g (fun σ m => evE σ m c) (fun σ m => evE σ m el) us m).bind fun xs m => guardR (decide (xs.length ≤ line)) (.ok (.d (.lst xs)) m)
  | .cv i es => (match σ[i]? with
    | some (some (.clo l cap)) => (evEs σ m es).bind fun ws m => C l (cap.map .d ++ ws) m
    | _ => .stuck)
  | .lam l is => (match is.mapM fun i => (match σ[i]? with | some (some (.d x)) => some x | _ => none) with
    | some xs => .ok (.clo l xs) m
    | none => .stuck)
def evEs (σ : Sl) (m : Mu) : Es → Res (List W)
  | .nil => .ok [] m
  | .cons e es => (evE σ m e).bind fun w m => (evEs σ m es).bind fun ws m => .ok (w :: ws) m
end
end

/-! ### statements -/
/-- behind a statement -/
inductive SR where
  | next (σ : Sl) (m : Mu)
  | ret (w : W) (σ : Sl) (m : Mu)
  | exc (x : Xn) (σ : Sl) (m : Mu)
  | stuck
def Res.toS {α : Type} (σ : Sl) (r : Res α) (f : α → Mu → SR) : SR := match r with
  | .ok a m => f a m
  | .exc x m => .exc x σ m
  | .stuck => .stuck
@[simp] theorem Res.toS_ok {α : Type} (σ : Sl) (a : α) (m : Mu) (f : α → Mu → SR) : (Res.ok a m).toS σ f = f a m := rfl
@[simp] theorem Res.toS_exc {α : Type} (σ : Sl) (x : Xn) (m : Mu) (f : α → Mu → SR) : (Res.exc x m).toS σ f = .exc x σ m := rfl
@[simp] theorem Res.toS_stuck {α : Type} (σ : Sl) (f : α → Mu → SR) : (Res.stuck : Res α).toS σ f = .stuck := rfl
def SR.then (r : SR) (f : Sl → Mu → SR) : SR := match r with
  | .next σ m => f σ m
  | .ret w σ m => .ret w σ m
  | .exc x σ m => .exc x σ m
  | .stuck => .stuck
@[simp] theorem SR.then_next (σ : Sl) (m : Mu) (f : Sl → Mu → SR) : (SR.next σ m).then f = f σ m := rfl
@[simp] theorem SR.then_ret (w : W) (σ : Sl) (m : Mu) (f : Sl → Mu → SR) : (SR.ret w σ m).then f = .ret w σ m := rfl
@[simp] theorem SR.then_exc (x : Xn) (σ : Sl) (m : Mu) (f : Sl → Mu → SR) : (SR.exc x σ m).then f = .exc x σ m := rfl
@[simp] theorem SR.then_stuck (f : Sl → Mu → SR) : SR.stuck.then f = .stuck := rfl
/-- a test's truth -/
def tst (r : Res W) : Res Bool := r.bind fun w m => match w with
  | .d (.bl b) => .ok b m
  | _ => .stuck
def forGo (g : Tg) (b : Sl → Mu → SR) : List W → Sl → Mu → SR
  | [], σ, m => .next σ m
  | x :: r, σ, m => (match bindG σ x g with
    | some σ1 => (b σ1 m).then fun σ2 m2 => forGo g b r σ2 m2
    | none => .stuck)
def whGo (c : Sl → Mu → Res Bool) (b : Sl → Mu → SR) : Nat → Sl → Mu → SR
  | 0, _, _ => .stuck
  | k + 1, σ, m => (c σ m).toS σ fun t m1 => if t then (b σ m1).then fun σ2 m2 => whGo c b k σ2 m2 else .next σ m1
/-- more turns than any while here -/
def turns : Nat := 1000000
def intF : List W → Option (List Int)
  | [] => some []
  | .d (.int i) :: r => (match intF r with | some t => some (i :: t) | none => none)
  | _ :: _ => none
def catchN (r : SR) (c i : Nat) : SR := match r with
  | .exc x σ m => if x.cls = c then .next (σ.set i (some (.d .non))) m else .exc x σ m
  | r => r
def fieldsF (x : Xn) : List Nat → Option (List D)
  | [] => some []
  | f :: r => (match x.fs[f]?, fieldsF x r with | some i, some t => some (.int i :: t) | _, _ => none)
def catchF (r : SR) (c i : Nat) (fs : List Nat) : SR := match r with
  | .exc x σ m => if x.cls = c then (match fieldsF x fs with | some ds => if i < σ.length then .ret (.d (.lst ds)) σ m else .stuck | none => .stuck) else .exc x σ m
  | r => r
def catchR (r : SR) (cs : List Nat) (x : Nat) (k : Int) : SR := match r with
  | .exc e σ m => if e.cls ∈ cs then .exc ⟨x, [k]⟩ σ m else .exc e σ m
  | r => r
section
variable (C : Calls)
def evIt (σ : Sl) (m : Mu) : It → Res (List W)
  | .seq e => (evE C σ m e).bind fun x m => optR (itemsD x) m
  | .rng a b => (evE C σ m a).bind fun x m => (evE C σ m b).bind fun y m => (match x, y with
    | .d (.int i), .d (.int j) => guardR (decide (-(2 ^ 30) ≤ i) && decide (i < 2 ^ 30) && decide (-(2 ^ 30) ≤ j) && decide (j < 2 ^ 30)) (.ok ((List.range (j - i).toNat).map fun (k : Nat) => .d (.int (i + k))) m)
    | _, _ => .stuck)
  | .enu e => (evE C σ m e).bind fun x m => (match x with
    | .d (.lst xs) => .ok ((List.range xs.length).zip xs |>.map fun p => .d (.tup [.int p.1, p.2])) m
    | _ => .stuck)
  | .zip a b => (evE C σ m a).bind fun x m => (evE C σ m b).bind fun y m => (match x, y with
    | .d (.tup xs), .d (.tup ys) => .ok (xs.zip ys |>.map fun p => .d (.tup [p.1, p.2])) m
    | _, _ => .stuck)
mutual
def evS (σ : Sl) (m : Mu) : S → SR
  | .asg i e => (evE C σ m e).toS σ fun w m => .next (σ.set i (some w)) m
  | .asgT is e => (evE C σ m e).toS σ fun w m => (match bindG σ w (.t is) with | some σ1 => .next σ1 m | none => .stuck)
  | .fzs i => (match σ[i]? with
    | some (some w) => (fzR m w).toS σ fun x m => .next (σ.set i (some (.d x))) m
    | _ => .stuck)
  | .seta c f o e => (evE C σ m e).toS σ fun w m => (evE C σ m o).toS σ fun x m => (sta m c f x w).toS σ fun _ m => .next σ m
  | .setx o k e => (evE C σ m e).toS σ fun w m => (evE C σ m o).toS σ fun x m => (evE C σ m k).toS σ fun y m => (stx m x y w).toS σ fun _ m => .next σ m
  | .setl o k e => (evE C σ m e).toS σ fun w m => (evE C σ m o).toS σ fun x m => (evE C σ m k).toS σ fun y m => (stl m x y w).toS σ fun _ m => .next σ m
  | .auga c f b o e => (evE C σ m o).toS σ fun x m => (atR m c f x).toS σ fun v m => (evE C σ m e).toS σ fun w m => (augR m b v w).toS σ fun z m => (sta m c f x z).toS σ fun _ m => .next σ m
  | .augx b o k e => (evE C σ m o).toS σ fun x m => (evE C σ m k).toS σ fun y m => (getR0 m x y).toS σ fun v m => (evE C σ m e).toS σ fun w m => (augR m b v w).toS σ fun z m => (stx m x y z).toS σ fun _ m => .next σ m
  | .augl b o k e => (evE C σ m o).toS σ fun x m => (evE C σ m k).toS σ fun y m => (ixL m x y).toS σ fun v m => (evE C σ m e).toS σ fun w m => (augR m b v w).toS σ fun z m => (stl m x y z).toS σ fun _ m => .next σ m
  | .ex e => (evE C σ m e).toS σ fun _ m => .next σ m
  | .ret e => (evE C σ m e).toS σ fun w m => .ret w σ m
  | .if_ c a b => (tst (evE C σ m c)).toS σ fun t m => if t then evSs σ m a else evSs σ m b
  | .wh c b => whGo (fun σ m => tst (evE C σ m c)) (fun σ m => evSs σ m b) turns σ m
  | .for_ g it b => (evIt C σ m it).toS σ fun ws m => forGo g (fun σ m => evSs σ m b) ws σ m
  | .rais c _ es => (evEs C σ m es).toS σ fun ws m => (match intF ws with | some is => .exc ⟨c, is⟩ σ m | none => .stuck)
  | .tryN b c i => catchN (evSs σ m b) c i
  | .tryF b c i fs => catchF (evSs σ m b) c i fs
  | .tryR b cs x _ k => catchR (evSs σ m b) cs x k
  | .base => .next σ m
def evSs (σ : Sl) (m : Mu) : Ss → SR
  | .nil => .next σ m
  | .cons s r => (evS σ m s).then fun σ m => evSs σ m r
end
end

/-! ### defs -/
/-- a def: how many parameters, how many slots, its body -/
structure Df where
  np : Nat
  ns : Nat
  body : Ss
/-- what is handed back lies in data or among the objects that were there; the others go -/
def endR (n : Nat) : W → Mu → Res W
  | .d x, m => .ok (.d x) (m.take n)
  | .h k, m => if k < n then .ok (.h k) (m.take n) else .stuck
  | .kt x, m => .ok (.kt x) (m.take n)
  | _, _ => .stuck
def endS (n : Nat) : SR → Res W
  | .next _ m => .ok (.d .non) (m.take n)
  | .ret w _ m => endR n w m
  | .exc x _ m => .exc x (m.take n)
  | .stuck => .stuck
def start (d : Df) (ws : List W) : Sl := ws.map some ++ List.replicate (d.ns - d.np) none
def runD (C : Calls) (d : Df) (ws : List W) (m : Mu) : Res W := if ws.length = d.np then endS m.length (evSs C (start d ws) m d.body) else .stuck
def run (T : List Df) : Nat → Calls
  | 0 => fun _ _ _ => .stuck
  | n + 1 => fun f ws m => match T[f]? with
    | some d => runD (run T n) d ws m
    | none => .stuck
end Cn

/-! # what the data and the objects of Cn are over a heap -/
namespace Cn
open PySem PySem.Spec PyProof.Rows L2

def strV (cs : List Nat) : Str := ⟨cs.toArray⟩
def kyV : Ky → L2.Key
  | .i n => .inl n
  | .s cs => .inr (strV cs)
def ktV (k : List Int) : List L2.Key := k.map .inl

/-- what is known of the text: where the classes of instances stand, their fields' names; what a closure is -/
structure Tx where
  K : PySem.W.Frag
  cad : Nat → Addr
  fn : Nat → List Str
  /-- what stands beside and is nobody's here -/
  side : Hp

mutual
inductive RD (T : Tx) (F : Hp) : V → D → Prop
  | non : RD T F .non .non
  | bl (b : Bool) : RD T F (.bl b) (.bl b)
  | int (i : Int) : RD T F (.int i) (.int i)
  | str (cs : List Nat) : RD T F (.str (strV cs)) (.str cs)
  | tup {a : Addr} {vs : List V} {xs : List D} : F a = some (.tup vs) → RDs T F vs xs → RD T F (.ref a) (.tup xs)
  | lst {a : Addr} {vs : List V} {xs : List D} : Rd F a (.lst vs) → RDs T F vs xs → RD T F (.ref a) (.lst xs)
  | ins {a dx : Addr} {c : Nat} {vs : List V} {xs : List D} : F a = some (.ins (T.cad c) dx ((T.fn c).zip vs)) → vs.length ≤ (T.fn c).length → RDs T F vs xs → RD T F (.ref a) (.ins c xs)
  | dK {a : Addr} {ks : List Ky} {vs : List V} {xs : List D} : F a = some (.dK ((ks.map kyV).zip vs)) → ks.length = vs.length → RDs T F vs xs → RD T F (.ref a) (.dK ks xs)
  | dT {a : Addr} {ks : List (List Int)} {vs : List V} {xs : List D} : F a = some (.dT ((ks.map ktV).zip vs)) → ks.length = vs.length → RDs T F vs xs → RD T F (.ref a) (.dT ks xs)
inductive RDs (T : Tx) (F : Hp) : List V → List D → Prop
  | nil : RDs T F [] []
  | cons {v : V} {vs : List V} {x : D} {xs : List D} : RD T F v x → RDs T F vs xs → RDs T F (v :: vs) (x :: xs)
end
mutual
inductive RK (K : PySem.W.Frag) : V → D → Prop
  | non : RK K .non .non
  | bl (b : Bool) : RK K (.bl b) (.bl b)
  | int (i : Int) : RK K (.int i) (.int i)
  | str (cs : List Nat) : RK K (.str (strV cs)) (.str cs)
  | tup {a : Addr} {vs : List V} {xs : List D} : (∀ H, SqT K H a vs) → RKs K vs xs → RK K (.ref a) (.tup xs)
inductive RKs (K : PySem.W.Frag) : List V → List D → Prop
  | nil : RKs K [] []
  | cons {v : V} {vs : List V} {x : D} {xs : List D} : RK K v x → RKs K vs xs → RKs K (v :: vs) (x :: xs)
end

/-- one heap goes over into another: what was tracked stands -/
def Le (F F' : Hp) : Prop := ∀ a o, F a = some o → F' a = some o
theorem Le.rfl' {F : Hp} : Le F F := fun _ _ e => e
theorem Le.trans {F G H : Hp} (a : Le F G) (b : Le G H) : Le F H := fun x o e => b x o (a x o e)
theorem Le.rd {F F' : Hp} (l : Le F F') {a : Addr} {u : HO} (h : Rd F a u) : Rd F' a u := h.elim (fun e => .inl (l _ _ e)) fun ⟨o, e⟩ => .inr ⟨o, l _ _ e⟩
theorem Le.upd {F H : Hp} (l : Le F H) {a : Addr} {o : HO} (n : F a = none) : Le F (upd H a o) := fun b u e => by
  rw [upd_ne (ne_of_none e n)]
  exact l b u e
theorem Le.new {H : Hp} {a : Addr} {o : HO} (n : H a = none) : Le H (L2.upd H a o) := Le.rfl'.upd n
theorem Le.both {F H : Hp} (l : Le F H) {a : Addr} {o : HO} : Le (L2.upd F a o) (L2.upd H a o) := fun b u e => by
  by_cases h : b = a
  · subst h
    rw [upd_same] at e ⊢
    exact e
  · rw [upd_ne h] at e ⊢
    exact l b u e
theorem side_new {S F H : Hp} (l : Le S H) (f : ∀ a o, S a = some o → F a = none) {a : Addr} {o : HO} (n : H a = none) : ∀ b u, S b = some u → (L2.upd F a o) b = none := fun b u e => by
  rw [upd_ne (fun z => by rw [z] at e; rw [l _ _ e] at n; cases n)]
  exact f b u e
theorem Le.none {F H : Hp} (l : Le F H) {a : Addr} (n : H a = none) : F a = none := by
  cases e : F a with
  | none => rfl
  | some o => rw [l _ _ e] at n; cases n

section
variable {T : Tx} {F F' : Hp}
mutual
theorem RD.mono (l : Le F F') : ∀ {v : V} {x : D}, RD T F v x → RD T F' v x
  | _, _, .non => .non
  | _, _, .bl b => .bl b
  | _, _, .int i => .int i
  | _, _, .str cs => .str cs
  | _, _, .tup h r => .tup (l _ _ h) (RDs.mono l r)
  | _, _, .lst h r => .lst (l.rd h) (RDs.mono l r)
  | _, _, .ins h n r => .ins (l _ _ h) n (RDs.mono l r)
  | _, _, .dK h n r => .dK (l _ _ h) n (RDs.mono l r)
  | _, _, .dT h n r => .dT (l _ _ h) n (RDs.mono l r)
theorem RDs.mono (l : Le F F') : ∀ {vs : List V} {xs : List D}, RDs T F vs xs → RDs T F' vs xs
  | _, _, .nil => .nil
  | _, _, .cons h r => .cons (RD.mono l h) (RDs.mono l r)
end
theorem RDs.length : ∀ {vs : List V} {xs : List D}, RDs T F vs xs → vs.length = xs.length
  | _, _, .nil => rfl
  | _, _, .cons _ r => by simp [RDs.length r]
theorem RDs.get : ∀ {vs : List V} {xs : List D} {i : Nat} {x : D}, RDs T F vs xs → xs[i]? = some x → ∃ v, vs[i]? = some v ∧ RD T F v x
  | _, _, _, _, .nil, e => by simp at e
  | _, _, 0, _, .cons h _, e => by simp at e; subst e; exact ⟨_, rfl, h⟩
  | _, _, i + 1, x, .cons _ r, e => by
    obtain ⟨v, h1, h2⟩ := RDs.get (i := i) (x := x) r (by simpa using e)
    exact ⟨v, by simpa using h1, h2⟩
theorem RDs.getV : ∀ {vs : List V} {xs : List D} {i : Nat} {v : V}, RDs T F vs xs → vs[i]? = some v → ∃ x, xs[i]? = some x ∧ RD T F v x
  | _, _, _, _, .nil, e => by simp at e
  | _, _, 0, _, .cons h _, e => by simp at e; subst e; exact ⟨_, rfl, h⟩
  | _, _, i + 1, v, .cons _ r, e => by
    obtain ⟨x, h1, h2⟩ := RDs.getV (i := i) (v := v) r (by simpa using e)
    exact ⟨x, by simpa using h1, h2⟩
theorem RDs.append : ∀ {vs ws : List V} {xs ys : List D}, RDs T F vs xs → RDs T F ws ys → RDs T F (vs ++ ws) (xs ++ ys)
  | _, _, _, _, .nil, s => s
  | _, _, _, _, .cons h r, s => .cons h (RDs.append r s)
theorem RDs.take : ∀ {vs : List V} {xs : List D} (n : Nat), RDs T F vs xs → RDs T F (vs.take n) (xs.take n)
  | _, _, 0, _ => .nil
  | _, _, _ + 1, .nil => .nil
  | _, _, n + 1, .cons h r => .cons h (RDs.take n r)
theorem RDs.drop : ∀ {vs : List V} {xs : List D} (n : Nat), RDs T F vs xs → RDs T F (vs.drop n) (xs.drop n)
  | _, _, 0, r => r
  | _, _, _ + 1, .nil => .nil
  | _, _, n + 1, .cons _ r => RDs.drop n r
theorem RDs.set : ∀ {vs : List V} {xs : List D} (i : Nat) {v : V} {x : D}, RDs T F vs xs → RD T F v x → RDs T F (vs.set i v) (xs.set i x)
  | _, _, _, _, _, .nil, _ => .nil
  | _, _, 0, _, _, .cons _ r, h => .cons h r
  | _, _, i + 1, _, _, .cons q r, h => .cons q (RDs.set i r h)
theorem RDs.rep {vs : List V} {xs : List D} (r : RDs T F vs xs) : ∀ n : Nat, RDs T F (List.replicate n vs).flatten (List.replicate n xs).flatten
  | 0 => .nil
  | n + 1 => by
    rw [List.replicate_succ, List.replicate_succ, List.flatten_cons, List.flatten_cons]
    exact r.append (RDs.rep r n)
theorem RDs.ints : ∀ (ns : List Int), RDs T F (ns.map V.int) (ns.map D.int)
  | [] => .nil
  | n :: r => .cons (.int n) (RDs.ints r)
theorem RDs.dropLast : ∀ {vs : List V} {xs : List D}, RDs T F vs xs → RDs T F vs.dropLast xs.dropLast
  | _, _, .nil => .nil
  | _, _, .cons h .nil => .nil
  | _, _, .cons h (.cons q r) => .cons h (RDs.dropLast (.cons q r))
theorem RKs.length {K : PySem.W.Frag} : ∀ {vs : List V} {xs : List D}, RKs K vs xs → vs.length = xs.length
  | _, _, .nil => rfl
  | _, _, .cons _ r => by simp [RKs.length r]
theorem RKs.get {K : PySem.W.Frag} : ∀ {vs : List V} {xs : List D} {i : Nat} {x : D}, RKs K vs xs → xs[i]? = some x → ∃ v, vs[i]? = some v ∧ RK K v x
  | _, _, _, _, .nil, e => by simp at e
  | _, _, 0, _, .cons h _, e => by simp at e; subst e; exact ⟨_, rfl, h⟩
  | _, _, i + 1, x, .cons _ r, e => by
    obtain ⟨v, h1, h2⟩ := RKs.get (i := i) (x := x) r (by simpa using e)
    exact ⟨v, by simpa using h1, h2⟩
/-- a module's tuple of no tuples is data anywhere -/
theorem RK.atom {K : PySem.W.Frag} {v : V} {x : D} (h : RK K v x) (e : x.atom = true) : RD T F v x := by
  cases h with
  | non => exact .non
  | bl b => exact .bl b
  | int i => exact .int i
  | str cs => exact .str cs
  | tup _ _ => cases e
theorem RKs.atoms {K : PySem.W.Frag} : ∀ {vs : List V} {xs : List D}, RKs K vs xs → xs.all D.atom = true → RDs T F vs xs
  | _, _, .nil, _ => .nil
  | _, _, .cons h r, e => by
    rw [List.all_cons, Bool.and_eq_true] at e
    exact .cons (h.atom e.1) (RKs.atoms r e.2)
end

/-! ### values, objects -/
abbrev Ro := List (Addr × List Addr)
def roI (ρ : Ro) (n f : Nat) : Option Addr := match ρ[n]? with
  | some p => p.2[f]?
  | none => none
def RW (T : Tx) (F : Hp) (ρ : Ro) (v : V) : W → Prop
  | .d x => RD T F v x
  | .kt x => RK T.K v x
  | .h n => ∃ p, ρ[n]? = some p ∧ v = .ref p.1
  | .hi n f => ∃ a, roI ρ n f = some a ∧ v = .ref a
  | .clo _ _ => False
def RWs (T : Tx) (F : Hp) (ρ : Ro) : List V → List W → Prop := Paired (RW T F ρ)
/-- what lies in an object whose inner ones stand at as -/
def RU (T : Tx) (F : Hp) (as : List Addr) (v : V) : U → Prop
  | .d x => RD T F v x
  | .i f => ∃ a, as[f]? = some a ∧ v = .ref a
abbrev RUs (T : Tx) (F : Hp) (as : List Addr) : List V → List U → Prop := Paired (RU T F as)
def RF (T : Tx) (F : Hp) : Fo → HO → Prop
  | .lst xs, o => ∃ vs, o = .lst vs ∧ RDs T F vs xs
  | .dK ks xs, o => ∃ vs, o = .dK ((ks.map kyV).zip vs) ∧ ks.length = vs.length ∧ RDs T F vs xs
  | .dT ks xs, o => ∃ vs, o = .dT ((ks.map ktV).zip vs) ∧ ks.length = vs.length ∧ RDs T F vs xs
def RR (T : Tx) (F : Hp) (as : List Addr) : Ob → HO → Prop
  | .lst us, o => ∃ vs, o = .lst vs ∧ RUs T F as vs us
  | .ins c us, o => ∃ dx vs, o = .ins (T.cad c) dx ((T.fn c).zip vs) ∧ vs.length ≤ (T.fn c).length ∧ RUs T F as vs us
  | .o f, o => RF T F f o
/-- the object n stands: ow tells whose an address is -/
structure RG (T : Tx) (F H : Hp) (ow : Addr → Nat × Option Nat) (n : Nat) (p : Addr × List Addr) (g : Gr) : Prop where
  own : ow p.1 = (n, none)
  fr : F p.1 = none
  root : ∃ o, H p.1 = some o ∧ RR T F p.2 g.root o
  len : p.2.length = g.inn.length
  inn : ∀ f b o, p.2[f]? = some b → g.inn[f]? = some (some o) → ow b = (n, some f) ∧ F b = none ∧ ∃ u, H b = some u ∧ RF T F o u
  sd : T.side p.1 = none ∧ ∀ (f : Nat) (b : Addr) (o : Fo), p.2[f]? = some b → g.inn[f]? = some (some o) → T.side b = none
structure Rel (T : Tx) (F : Hp) (ρ : Ro) (H : Hp) (m : Mu) : Prop where
  sub : Le F H
  len : ρ.length = m.length
  ex : ∃ ow : Addr → Nat × Option Nat, ∀ n p g, ρ[n]? = some p → m[n]? = some (some g) → RG T F H ow n p g
  sd : Le T.side H
  sf : ∀ a o, T.side a = some o → F a = none
/-- the slots -/
def RSl (T : Tx) (F : Hp) (ρ : Ro) (σ : L2.St) (ws : Sl) : Prop := σ.length = ws.length ∧ ∀ (i : Nat) (w : W), ws[i]? = some (some w) → ∃ v, σ[i]? = some (some v) ∧ RW T F ρ v w
/-- places grow -/
def RoLe (ρ ρ' : Ro) : Prop := ρ.length ≤ ρ'.length ∧ ∀ (n : Nat) (p : Addr × List Addr), ρ[n]? = some p → ∃ as, ρ'[n]? = some (p.1, p.2 ++ as)
theorem RoLe.rfl' {ρ : Ro} : RoLe ρ ρ := ⟨Nat.le_refl _, fun n p e => ⟨[], by rw [e]; simp⟩⟩
theorem RoLe.trans {a b c : Ro} (h : RoLe a b) (g : RoLe b c) : RoLe a c := ⟨Nat.le_trans h.1 g.1, fun n p e => by
  obtain ⟨as, e1⟩ := h.2 n p e
  obtain ⟨bs, e2⟩ := g.2 n _ e1
  exact ⟨as ++ bs, by rw [e2]; simp⟩⟩
section
variable {T : Tx} {F F' H H' : Hp} {ρ ρ' : Ro} {m : Mu}
theorem roI_mono (h : RoLe ρ ρ') {n f : Nat} {a : Addr} (e : roI ρ n f = some a) : roI ρ' n f = some a := by
  unfold roI at e ⊢
  cases q : ρ[n]? with
  | none => rw [q] at e; cases e
  | some p =>
    rw [q] at e
    obtain ⟨as, e1⟩ := h.2 n p q
    rw [e1]
    have e' : p.2[f]? = some a := e
    show (p.2 ++ as)[f]? = some a
    rw [List.getElem?_append_left (List.getElem?_eq_some_iff.mp e').1]
    exact e'
theorem RW.mono (l : Le F F') (h : RoLe ρ ρ') {v : V} : ∀ {w : W}, RW T F ρ v w → RW T F' ρ' v w
  | .d _, r => RD.mono l r
  | .kt _, r => r
  | .h n, ⟨p, e, q⟩ => by
    obtain ⟨as, e1⟩ := h.2 n p e
    exact ⟨_, e1, q⟩
  | .hi n f, ⟨a, e, q⟩ => ⟨a, roI_mono h e, q⟩
  | .clo _ _, r => r
theorem RWs.mono (l : Le F F') (h : RoLe ρ ρ') : ∀ {vs : List V} {ws : List W}, RWs T F ρ vs ws → RWs T F' ρ' vs ws
  | _, _, .nil => .nil
  | _, _, .cons r s => .cons (RW.mono l h r) (RWs.mono l h s)
theorem RSl.mono (l : Le F F') (h : RoLe ρ ρ') {σ : L2.St} {ws : Sl} (r : RSl T F ρ σ ws) : RSl T F' ρ' σ ws := ⟨r.1, fun i w e => by
  obtain ⟨v, e1, q⟩ := r.2 i w e
  exact ⟨v, e1, q.mono l h⟩⟩
theorem RSl.set {σ : L2.St} {ws : Sl} (r : RSl T F ρ σ ws) (i : Nat) {v : V} {w : W} (h : RW T F ρ v w) : RSl T F ρ (σ.set i (some v)) (ws.set i (some w)) := by
  refine ⟨by simpa using r.1, fun j u e => ?_⟩
  by_cases hj : i = j
  · subst hj
    have hl : i < ws.length := by
      have := (List.getElem?_eq_some_iff.mp e).1
      simpa using this
    rw [List.getElem?_set_self hl] at e
    cases e
    exact ⟨v, List.getElem?_set_self (by rw [r.1]; exact hl), h⟩
  · rw [List.getElem?_set_ne hj] at e ⊢
    exact r.2 j u e
theorem RU.mono (l : Le F F') {as bs : List Addr} {v : V} : ∀ {u : U}, RU T F as v u → RU T F' (as ++ bs) v u
  | .d _, r => RD.mono l r
  | .i f, ⟨a, e, q⟩ => ⟨a, by rw [List.getElem?_append_left (List.getElem?_eq_some_iff.mp e).1]; exact e, q⟩
theorem RUs.mono (l : Le F F') {as bs : List Addr} : ∀ {vs : List V} {us : List U}, RUs T F as vs us → RUs T F' (as ++ bs) vs us
  | _, _, .nil => .nil
  | _, _, .cons r s => .cons (RU.mono l r) (RUs.mono l s)
theorem RF.mono (l : Le F F') {f : Fo} {o : HO} (r : RF T F f o) : RF T F' f o := by
  cases f with
  | lst xs => obtain ⟨vs, e, q⟩ := r; exact ⟨vs, e, q.mono l⟩
  | dK ks xs => obtain ⟨vs, e, n, q⟩ := r; exact ⟨vs, e, n, q.mono l⟩
  | dT ks xs => obtain ⟨vs, e, n, q⟩ := r; exact ⟨vs, e, n, q.mono l⟩
theorem RR.mono (l : Le F F') {as : List Addr} (bs : List Addr) {f : Ob} {o : HO} (r : RR T F as f o) : RR T F' (as ++ bs) f o := by
  cases f with
  | lst us => obtain ⟨vs, e, q⟩ := r; exact ⟨vs, e, RUs.mono l q⟩
  | ins c us => obtain ⟨dx, vs, e, n, q⟩ := r; exact ⟨dx, vs, e, n, RUs.mono l q⟩
  | o f => exact RF.mono l r
theorem RR.monoF (l : Le F F') {as : List Addr} {f : Ob} {o : HO} (r : RR T F as f o) : RR T F' as f o := by
  have := RR.mono l [] r
  rwa [List.append_nil] at this
theorem PairedLen {α β : Type} {R : α → β → Prop} : ∀ {xs : List α} {ys : List β}, Paired R xs ys → xs.length = ys.length
  | _, _, .nil => rfl
  | _, _, .cons _ t => by simp [PairedLen t]

/-- a live object's address is tracked -/
theorem Rel.tracked (r : Rel T F ρ H m) {n : Nat} {p : Addr × List Addr} {g : Gr} (e : ρ[n]? = some p) (q : m[n]? = some (some g)) : ∃ o, H p.1 = some o := by
  obtain ⟨ow, h⟩ := r.ex
  obtain ⟨o, e1, _⟩ := (h n p g e q).root
  exact ⟨o, e1⟩
/-- a new thing of data: tracked in both -/
theorem Rel.grow (r : Rel T F ρ H m) {a : Addr} {o : HO} (n : H a = none) : Rel T (upd F a o) ρ (upd H a o) m := by
  obtain ⟨ow, h⟩ := r.ex
  have lF : Le F (upd F a o) := Le.new (r.sub.none n)
  refine ⟨r.sub.both, r.len, ⟨ow, fun k p g e q => ?_⟩, r.sd.upd (r.sd.none n), side_new r.sd r.sf n⟩
  obtain ⟨h1, h2, ⟨o1, h3, h3'⟩, h4, h5, h6⟩ := h k p g e q
  refine ⟨h1, by rw [upd_ne (ne_of_none h3 n)]; exact h2, ⟨o1, by rw [upd_ne (ne_of_none h3 n)]; exact h3, h3'.monoF lF⟩, h4, fun f b u e1 e2 => ?_, h6⟩
  obtain ⟨k1, k2, u', k3, k4⟩ := h5 f b u e1 e2
  exact ⟨k1, by rw [upd_ne (ne_of_none k3 n)]; exact k2, u', by rw [upd_ne (ne_of_none k3 n)]; exact k3, k4.mono lF⟩
/-- a thing that is tracked beside -/
theorem Rel.side (r : Rel T F ρ H m) {a : Addr} {o : HO} (n : H a = none) : Rel T F ρ (upd H a o) m := by
  obtain ⟨ow, h⟩ := r.ex
  refine ⟨r.sub.upd (r.sub.none n), r.len, ⟨ow, fun k p g e q => ?_⟩, r.sd.upd (r.sd.none n), r.sf⟩
  obtain ⟨h1, h2, ⟨o1, h3, h3'⟩, h4, h5, h6⟩ := h k p g e q
  refine ⟨h1, h2, ⟨o1, by rw [upd_ne (ne_of_none h3 n)]; exact h3, h3'⟩, h4, fun f b u e1 e2 => ?_, h6⟩
  obtain ⟨k1, k2, u', k3, k4⟩ := h5 f b u e1 e2
  exact ⟨k1, k2, u', by rw [upd_ne (ne_of_none k3 n)]; exact k3, k4⟩
/-- a new object -/
theorem Rel.alloc (r : Rel T F ρ H m) {a : Addr} {ho : HO} {ob : Ob} (n : H a = none) (h : RR T F [] ob ho) : Rel T F (ρ ++ [(a, [])]) (upd H a ho) (m ++ [some ⟨ob, []⟩]) := by
  obtain ⟨ow, hx⟩ := r.ex
  refine ⟨r.sub.upd (r.sub.none n), by simp [r.len], ⟨fun b => if b = a then (m.length, none) else ow b, fun k p g e q => ?_⟩, r.sd.upd (r.sd.none n), r.sf⟩
  by_cases hk : k < m.length
  · rw [List.getElem?_append_left (by rw [r.len]; exact hk)] at e
    rw [List.getElem?_append_left hk] at q
    obtain ⟨h1, h2, ⟨o1, h3, h3'⟩, h4, h5, h6⟩ := hx k p g e q
    have ne := ne_of_none h3 n
    refine ⟨(if_neg ne).trans h1, h2, ⟨o1, by rw [upd_ne ne]; exact h3, h3'⟩, h4, fun f b u e1 e2 => ?_, h6⟩
    obtain ⟨k1, k2, u', k3, k4⟩ := h5 f b u e1 e2
    have nb := ne_of_none k3 n
    exact ⟨(if_neg nb).trans k1, k2, u', by rw [upd_ne nb]; exact k3, k4⟩
  · have hkm : k = m.length := by
      have := (List.getElem?_eq_some_iff.mp q).1
      simp at this
      omega
    subst hkm
    rw [← r.len, List.getElem?_append_right (Nat.le_refl _)] at e
    rw [List.getElem?_append_right (Nat.le_refl _)] at q
    simp at e q
    subst e q
    exact ⟨by simp, r.sub.none n, ⟨ho, upd_same, h⟩, rfl, fun f b u e1 e2 => by simp at e1, r.sd.none n, fun f b u e1 e2 => by simp at e1⟩
theorem RoLe.snoc {ρ : Ro} {p : Addr × List Addr} : RoLe ρ (ρ ++ [p]) := ⟨by simp, fun n q e => ⟨[], by
  rw [List.getElem?_append_left (List.getElem?_eq_some_iff.mp e).1, e]
  simp⟩⟩
theorem Rel.take (r : Rel T F ρ H m) (n : Nat) : Rel T F (ρ.take n) H (m.take n) := by
  obtain ⟨ow, hx⟩ := r.ex
  refine ⟨r.sub, by simp [r.len], ⟨ow, fun k p g e q => ?_⟩, r.sd, r.sf⟩
  rw [List.getElem?_take] at e q
  by_cases hk : k < n
  · rw [if_pos hk] at e q
    exact hx k p g e q
  · rw [if_neg hk] at e
    cases e
theorem grAt_some {m : Mu} {n : Nat} {g : Gr} (h : grAt m n = some g) : m[n]? = some (some g) := by
  unfold grAt at h
  split at h
  · rename_i g' e
    cases h
    exact e
  · cases h
theorem rootAt_some {m : Mu} {n : Nat} {o : Ob} (h : rootAt m n = some o) : ∃ g, m[n]? = some (some g) ∧ g.root = o := by
  unfold rootAt at h
  split at h
  · rename_i g e
    cases h
    exact ⟨g, grAt_some e, rfl⟩
  · cases h
theorem inAt_some {m : Mu} {n f : Nat} {o : Fo} (h : inAt m n f = some o) : ∃ g, m[n]? = some (some g) ∧ g.inn[f]? = some (some o) := by
  unfold inAt at h
  split at h
  · rename_i g e
    split at h
    · rename_i o' e'
      cases h
      exact ⟨g, grAt_some e, e'⟩
    · cases h
  · cases h
/-- an object changes: its root -/
theorem Rel.setRoot (r : Rel T F ρ H m) {n : Nat} {p : Addr × List Addr} {g : Gr} {ho : HO} {ob : Ob} (e : ρ[n]? = some p) (q : m[n]? = some (some g)) (h : RR T F p.2 ob ho) : Rel T F ρ (upd H p.1 ho) (setRoot m n ob) := by
  obtain ⟨ow, hx⟩ := r.ex
  have hn := hx n p g e q
  have hg : grAt m n = some g := by unfold grAt; rw [q]
  have hs : Cn.setRoot m n ob = m.set n (some { g with root := ob }) := by unfold Cn.setRoot; rw [hg]
  rw [hs]
  refine ⟨r.sub.upd hn.fr, by simp [r.len], ⟨ow, fun k p' g' e' q' => ?_⟩, r.sd.upd hn.sd.1, r.sf⟩
  by_cases hk : n = k
  · subst hk
    rw [e] at e'
    cases e'
    have hl : n < m.length := (List.getElem?_eq_some_iff.mp q).1
    rw [List.getElem?_set_self hl] at q'
    cases q'
    refine ⟨hn.own, hn.fr, ⟨ho, upd_same, h⟩, hn.len, fun f b o e1 e2 => ?_, hn.sd⟩
    obtain ⟨k1, k2, u, k3, k4⟩ := hn.inn f b o e1 e2
    have ne : b ≠ p.1 := fun z => by rw [z, hn.own] at k1; cases k1
    exact ⟨k1, k2, u, by rw [upd_ne ne]; exact k3, k4⟩
  · rw [List.getElem?_set_ne hk] at q'
    obtain ⟨h1, h2, ⟨o1, h3, h3'⟩, h4, h5, h6⟩ := hx k p' g' e' q'
    have ne : p'.1 ≠ p.1 := fun z => by rw [z, hn.own] at h1; exact hk (congrArg Prod.fst h1)
    refine ⟨h1, h2, ⟨o1, by rw [upd_ne ne]; exact h3, h3'⟩, h4, fun f b u e1 e2 => ?_, h6⟩
    obtain ⟨k1, k2, u', k3, k4⟩ := h5 f b u e1 e2
    have nb : b ≠ p.1 := fun z => by rw [z, hn.own] at k1; exact hk (congrArg Prod.fst k1)
    exact ⟨k1, k2, u', by rw [upd_ne nb]; exact k3, k4⟩
/-- .. an inner one -/
theorem Rel.setIn (r : Rel T F ρ H m) {n f : Nat} {p : Addr × List Addr} {g : Gr} {b : Addr} {ho : HO} {fo fo' : Fo} (e : ρ[n]? = some p) (q : m[n]? = some (some g)) (eb : p.2[f]? = some b) (qf : g.inn[f]? = some (some fo')) (h : RF T F fo ho) :
    Rel T F ρ (upd H b ho) (setIn m n f (some fo)) := by
  obtain ⟨ow, hx⟩ := r.ex
  have hn := hx n p g e q
  obtain ⟨b1, b2, _⟩ := hn.inn f b fo' eb qf
  have hg : grAt m n = some g := by unfold grAt; rw [q]
  have hs : Cn.setIn m n f (some fo) = m.set n (some { g with inn := g.inn.set f (some fo) }) := by unfold Cn.setIn; rw [hg]
  rw [hs]
  refine ⟨r.sub.upd b2, by simp [r.len], ⟨ow, fun k p' g' e' q' => ?_⟩, r.sd.upd (hn.sd.2 f b fo' eb qf), r.sf⟩
  by_cases hk : n = k
  · subst hk
    rw [e] at e'
    cases e'
    have hl : n < m.length := (List.getElem?_eq_some_iff.mp q).1
    rw [List.getElem?_set_self hl] at q'
    cases q'
    obtain ⟨o1, h3, h3'⟩ := hn.root
    have ne : p.1 ≠ b := fun z => by rw [← z, hn.own] at b1; cases b1
    refine ⟨hn.own, hn.fr, ⟨o1, by rw [upd_ne ne]; exact h3, h3'⟩, by simpa using hn.len, fun f' b' o e1 e2 => ?_, hn.sd.1, fun f' b' o e1 e2 => ?_⟩
    rotate_left
    · by_cases hf : f = f'
      · subst hf
        exact hn.sd.2 f b' fo' e1 qf
      · have e2' : (g.inn.set f (some fo))[f']? = some (some o) := e2
        rw [List.getElem?_set_ne hf] at e2'
        exact hn.sd.2 f' b' o e1 e2'
    by_cases hf : f = f'
    · subst hf
      rw [eb] at e1
      cases e1
      have hlf : f < g.inn.length := (List.getElem?_eq_some_iff.mp qf).1
      have e2' : (g.inn.set f (some fo))[f]? = some (some o) := e2
      rw [List.getElem?_set_self hlf] at e2'
      cases e2'
      exact ⟨b1, b2, ho, upd_same, h⟩
    · have e2' : (g.inn.set f (some fo))[f']? = some (some o) := e2
      rw [List.getElem?_set_ne hf] at e2'
      obtain ⟨k1, k2, u, k3, k4⟩ := hn.inn f' b' o e1 e2'
      have nb : b' ≠ b := fun z => by rw [z, b1] at k1; exact hf (Option.some.inj (congrArg Prod.snd k1))
      exact ⟨k1, k2, u, by rw [upd_ne nb]; exact k3, k4⟩
  · rw [List.getElem?_set_ne hk] at q'
    obtain ⟨h1, h2, ⟨o1, h3, h3'⟩, h4, h5, h6⟩ := hx k p' g' e' q'
    have ne : p'.1 ≠ b := fun z => by rw [z, b1] at h1; cases h1
    refine ⟨h1, h2, ⟨o1, by rw [upd_ne ne]; exact h3, h3'⟩, h4, fun f' b' u e1 e2 => ?_, h6⟩
    obtain ⟨k1, k2, u', k3, k4⟩ := h5 f' b' u e1 e2
    have nb : b' ≠ b := fun z => by rw [z, b1] at k1; exact hk (congrArg Prod.fst k1)
    exact ⟨k1, k2, u', by rw [upd_ne nb]; exact k3, k4⟩
end
end Cn

namespace Cn
open PySem PySem.Spec PyProof.Rows L2

/-- an exception as it lies: its class, its own dict -/
structure Xt where
  xad : Nat → Addr
  xfn : Nat → List Str
  num : Nat
def RX (xt : Xt) (F : Hp) (c : Value) (dx : Option Addr) (x : Xn) : Prop :=
  c = .ref (xt.xad x.cls) ∧ x.cls < xt.num ∧ x.fs.length = (xt.xfn x.cls).length ∧ (x.fs = [] ∨ ∃ d fs, dx = some d ∧ F d = some (.xd fs) ∧ ∀ (i : Nat) (n : Str) (z : Int), (xt.xfn x.cls)[i]? = some n → x.fs[i]? = some z → fs.lookup n = some (.int z))
theorem RX.mono {xt : Xt} {F F' : Hp} (l : Le F F') {c : Value} {dx : Option Addr} {x : Xn} (r : RX xt F c dx x) : RX xt F' c dx x := by
  obtain ⟨h1, h0, h2, h3⟩ := r
  refine ⟨h1, h0, h2, h3.elim .inl fun ⟨d, fs, a, b, e⟩ => .inr ⟨d, fs, a, l _ _ b, e⟩⟩

/-- behind a reckoning: its value with the heap then, or an exception -/
def After (T : Tx) (xt : Xt) (F : Hp) (ρ : Ro) {α : Type} (r : Res α) (k : Hp → Ro → Hp → Mu → α → Prop) (e : XK) : Prop := match r with
  | .ok a m => ∀ F' ρ' H', Rel T F' ρ' H' m → Le F F' → RoLe ρ ρ' → k F' ρ' H' m a
  | .exc x m => ∀ F' ρ' H' c dx, Rel T F' ρ' H' m → Le F F' → RoLe ρ ρ' → RX xt F' c dx x → e c dx H'
  | .stuck => False
section
variable {T : Tx} {xt : Xt} {F F' : Hp} {ρ ρ' : Ro} {α β : Type} {r : Res α} {k k' : Hp → Ro → Hp → Mu → α → Prop} {e e' : XK}
theorem After.mono (h : After T xt F ρ r k e) (l : Le F F') (g : RoLe ρ ρ') : After T xt F' ρ' r k e := by
  cases r with
  | ok a m => exact fun F1 ρ1 H1 R l1 g1 => h F1 ρ1 H1 R (l.trans l1) (g.trans g1)
  | exc x m => exact fun F1 ρ1 H1 c dx R l1 g1 => h F1 ρ1 H1 c dx R (l.trans l1) (g.trans g1)
  | stuck => exact h
theorem After.imp (h : After T xt F ρ r k e) (hk : ∀ F' ρ' H' m a, Rel T F' ρ' H' m → Le F F' → RoLe ρ ρ' → k F' ρ' H' m a → k' F' ρ' H' m a) (he : ∀ c dx H', e c dx H' → e' c dx H') : After T xt F ρ r k' e' := by
  cases r with
  | ok a m => exact fun F1 ρ1 H1 R l1 g1 => hk _ _ _ _ _ R l1 g1 (h F1 ρ1 H1 R l1 g1)
  | exc x m => exact fun F1 ρ1 H1 c dx R l1 g1 x => he _ _ _ (h F1 ρ1 H1 c dx R l1 g1 x)
  | stuck => exact h
theorem After.bind {f : α → Mu → Res β} {k : Hp → Ro → Hp → Mu → β → Prop} (h : After T xt F ρ (r.bind f) k e) : After T xt F ρ r (fun F' ρ' _ m a => After T xt F' ρ' (f a m) k e) e := by
  cases r with
  | ok a m => exact fun F1 ρ1 H1 R l1 g1 => After.mono (r := f a m) h l1 g1
  | exc x m => exact h
  | stuck => exact h
theorem After.ok {a : α} {m : Mu} {H : Hp} (h : After T xt F ρ (.ok a m) k e) (R : Rel T F ρ H m) : k F ρ H m a := h F ρ H R Le.rfl' .rfl'
end

/-- an expression's reading -/
def tE (T : Tx) (xt : Xt) (W' : WX) (ev : Sl → Mu → Res W) : TE := fun σ H Q => ∃ F ρ m ws, Rel T F ρ H m ∧ RSl T F ρ σ ws ∧
  After T xt F ρ (ev ws m) (fun F' ρ' H' _ w => ∀ v, RW T F' ρ' v w → Q v H') (fun c dx H' => W' c dx σ H')
def tT (T : Tx) (xt : Xt) (W' : WX) (ev : Sl → Mu → Res Bool) : TT := fun σ H Q => ∃ F ρ m ws, Rel T F ρ H m ∧ RSl T F ρ σ ws ∧
  After T xt F ρ (ev ws m) (fun _ _ H' _ b => Q b H') (fun c dx H' => W' c dx σ H')
def tA (T : Tx) (xt : Xt) (W' : WX) (ev : Sl → Mu → Res (List W)) : TA := fun σ H Q => ∃ F ρ m ws, Rel T F ρ H m ∧ RSl T F ρ σ ws ∧
  After T xt F ρ (ev ws m) (fun F' ρ' H' _ us => ∀ vs, RWs T F' ρ' vs us → Q vs H') (fun c dx H' => W' c dx σ H')
def AfterS (T : Tx) (xt : Xt) (W' : WX) (D : Ends) (F : Hp) (ρ : Ro) (σ : L2.St) (r : SR) : Prop := match r with
  | .next ws m => ∀ F' ρ' H' σ', Rel T F' ρ' H' m → Le F F' → RoLe ρ ρ' → RSl T F' ρ' σ' ws → D.nx σ' H'
  | .ret w _ m => ∀ F' ρ' H' v, Rel T F' ρ' H' m → Le F F' → RoLe ρ ρ' → RW T F' ρ' v w → D.rt v H'
  | .exc x ws m => ∀ F' ρ' H' σ' c dx, Rel T F' ρ' H' m → Le F F' → RoLe ρ ρ' → RSl T F' ρ' σ' ws → RX xt F' c dx x → W' c dx σ' H'
  | .stuck => False
def tS (T : Tx) (xt : Xt) (W' : WX) (ev : Sl → Mu → SR) : TS := fun D σ H => ∃ F ρ m ws, Rel T F ρ H m ∧ RSl T F ρ σ ws ∧ AfterS T xt W' D F ρ σ (ev ws m)

theorem _root_.L2.PE.imp {X : Cx} {e : Expr} {t t' : TE} (h : PE X e t) (i : ∀ σ H Q, t' σ H Q → t σ H Q) : PE X e t' := ⟨fun pins s σ H Q I q => h.run pins s σ H Q I (i σ H Q q)⟩
theorem _root_.L2.PT.imp {X : Cx} {e : Expr} {t t' : TT} (h : PT X e t) (i : ∀ σ H Q, t' σ H Q → t σ H Q) : PT X e t' := ⟨fun pins s σ H Q I q => h.run pins s σ H Q I (i σ H Q q)⟩
theorem _root_.L2.PA.imp {X : Cx} {e : List Expr} {t t' : TA} (h : PA X e t) (i : ∀ σ H Q, t' σ H Q → t σ H Q) : PA X e t' := ⟨fun pos pins s σ H Q I q => h.run pos pins s σ H Q I (i σ H Q q)⟩
theorem _root_.L2.PS.imp {X : Cx} {e : Stmt} {t t' : TS} (h : PS X e t) (i : ∀ D σ H, t' D σ H → t D σ H) : PS X e t' := ⟨fun pins s σ H D I q => h.run pins s σ H D I (i D σ H q)⟩
theorem _root_.L2.PSs.imp {X : Cx} {e : List Stmt} {t t' : TS} (h : PSs X e t) (i : ∀ D σ H, t' D σ H → t D σ H) : PSs X e t' := ⟨fun pins s σ H D I q => h.run pins s σ H D I (i D σ H q)⟩

section
variable {T : Tx} {xt : Xt} {W' : WX} {σ : L2.St} {H : Hp}
/-- the first of two -/
theorem tE_bind {ea : Sl → Mu → Res W} {f : Sl → W → Mu → Res W} {Q : VK} (h : tE T xt W' (fun ws m => (ea ws m).bind (f ws)) σ H Q) {R : V → Hp → Prop}
    (g : ∀ F ρ m ws v w H1, Rel T F ρ H1 m → RSl T F ρ σ ws → RW T F ρ v w → After T xt F ρ (f ws w m) (fun F' ρ' H' _ w => ∀ v, RW T F' ρ' v w → Q v H') (fun c dx H' => W' c dx σ H') → R v H1) : tE T xt W' ea σ H R := by
  obtain ⟨F, ρ, m, ws, r, s, a⟩ := h
  refine ⟨F, ρ, m, ws, r, s, a.bind.imp (fun F1 ρ1 H1 m1 w r1 l1 g1 k v hv => ?_) fun _ _ _ z => z⟩
  exact g F1 ρ1 m1 ws v w H1 r1 (s.mono l1 g1) hv k
/-- an operation of one, two values -/
def r1 (T : Tx) (xt : Xt) (f : Mu → W → Res W) : V → Hp → VK → Prop := fun x H Q => ∃ F ρ m w, Rel T F ρ H m ∧ RW T F ρ x w ∧ After T xt F ρ (f m w) (fun F' ρ' H' _ z => ∀ v, RW T F' ρ' v z → Q v H') (fun _ _ _ => True)
def r2 (T : Tx) (xt : Xt) (f : Mu → W → W → Res W) : R2 := fun x y H Q => ∃ F ρ m w u, Rel T F ρ H m ∧ RW T F ρ x w ∧ RW T F ρ y u ∧ After T xt F ρ (f m w u) (fun F' ρ' H' _ z => ∀ v, RW T F' ρ' v z → Q v H') (fun _ _ _ => True)
theorem tOp_of {ea eb : Sl → Mu → Res W} {f : Mu → W → W → Res W} {Q : VK} (h : tE T xt W' (fun ws m => (ea ws m).bind fun x m => (eb ws m).bind fun y m => f m x y) σ H Q) : tOp (r2 T xt f) (tE T xt W' ea) (tE T xt W' eb) σ H Q := by
  refine tE_bind (f := fun ws x m => (eb ws m).bind fun y m => f m x y) h fun F ρ m ws v w H1 R S hv a => ?_
  refine ⟨F, ρ, m, ws, R, S, a.bind.imp (fun F1 ρ1 H2 m1 u r1 l1 g1 k y hy => ?_) fun _ _ _ z => z⟩
  exact ⟨F1, ρ1, m1, w, u, r1, hv.mono l1 g1, hy, k.imp (fun _ _ _ _ _ _ _ _ z => z) fun _ _ _ _ => trivial⟩
theorem tUn_of {ea : Sl → Mu → Res W} {f : Mu → W → Res W} {Q : VK} (h : tE T xt W' (fun ws m => (ea ws m).bind fun x m => f m x) σ H Q) : tUn (r1 T xt f) (tE T xt W' ea) σ H Q :=
  tE_bind (f := fun ws x m => f m x) h fun F ρ m ws v w H1 R S hv a => ⟨F, ρ, m, w, R, hv, a.imp (fun _ _ _ _ _ _ _ _ z => z) fun _ _ _ _ => trivial⟩
end

/-! ### data as PyData -/
mutual
def toPy : D → PyData
  | .non => .none
  | .bl b => .bool b
  | .int i => .int i
  | .str cs => .str (strV cs)
  | .tup xs => .tuple (toPys xs)
  | .lst xs => .list (toPys xs)
  | .ins _ _ => .none
  | .dK _ _ => .none
  | .dT _ _ => .none
def toPys : List D → List PyData
  | [] => []
  | x :: r => toPy x :: toPys r
end
mutual
theorem toPy_plain : ∀ x : D, (toPy x).plain = true
  | .non => rfl
  | .bl _ => rfl
  | .int _ => rfl
  | .str _ => rfl
  | .tup xs => by simp only [toPy, PyData.plain]; exact toPys_plain xs
  | .lst xs => by simp only [toPy, PyData.plain]; exact toPys_plain xs
  | .ins _ _ => rfl
  | .dK _ _ => rfl
  | .dT _ _ => rfl
theorem toPys_plain : ∀ xs : List D, PyData.plainAll (toPys xs) = true
  | [] => rfl
  | x :: r => by simp only [toPys, PyData.plainAll, toPy_plain x, toPys_plain r, Bool.and_self]
end
mutual
theorem toPy_depth : ∀ x : D, (toPy x).depth = x.depth
  | .non => rfl
  | .bl _ => rfl
  | .int _ => rfl
  | .str _ => rfl
  | .tup xs => by simp only [toPy, PyData.depth, D.depth, toPys_depth xs]
  | .lst xs => by simp only [toPy, PyData.depth, D.depth, toPys_depth xs]
  | .ins _ _ => rfl
  | .dK _ _ => rfl
  | .dT _ _ => rfl
theorem toPys_depth : ∀ xs : List D, PyData.depthAll (toPys xs) = D.depths xs
  | [] => rfl
  | x :: r => by simp only [toPys, PyData.depthAll, D.depths, toPy_depth x, toPys_depth r]
end
theorem strV_inj {a b : List Nat} : strV a = strV b ↔ a = b := by
  constructor
  · intro h
    have := congrArg (fun s : Str => s.cps.toList) h
    simpa [strV] using this
  · intro h; rw [h]
theorem strV_beq (a b : List Nat) : (strV a == strV b) = (a == b) := by
  rw [Bool.eq_iff_iff]
  simp [strV_inj]
mutual
theorem toPy_eqv : ∀ (x y : D), x.plain = true → y.plain = true → PyData.eqv (toPy x) (toPy y) = x.eqv y
  | .non, y, _, hy => by cases y <;> first | rfl | (cases hy)
  | .bl a, y, _, hy => by cases y <;> first | rfl | (cases hy)
  | .int i, y, _, hy => by cases y <;> first | rfl | (cases hy)
  | .str x, y, _, hy => by
    cases y with
    | str y => simp only [toPy, PyData.eqv, D.eqv]; exact strV_beq x y
    | ins _ _ => cases hy
    | dK _ _ => cases hy
    | dT _ _ => cases hy
    | _ => rfl
  | .tup xs, y, hx, hy => by
    cases y with
    | tup ys => simp only [toPy, PyData.eqv, D.eqv]; exact toPys_eqv xs ys hx hy
    | ins _ _ => cases hy
    | dK _ _ => cases hy
    | dT _ _ => cases hy
    | _ => rfl
  | .lst xs, y, hx, hy => by
    cases y with
    | lst ys => simp only [toPy, PyData.eqv, D.eqv]; exact toPys_eqv xs ys hx hy
    | ins _ _ => cases hy
    | dK _ _ => cases hy
    | dT _ _ => cases hy
    | _ => rfl
  | .ins _ _, _, h, _ => by cases h
  | .dK _ _, _, h, _ => by cases h
  | .dT _ _, _, h, _ => by cases h
theorem toPys_eqv : ∀ (xs ys : List D), D.plains xs = true → D.plains ys = true → PyData.eqvAll (toPys xs) (toPys ys) = D.eqvs xs ys
  | [], [], _, _ => rfl
  | [], _ :: _, _, _ => rfl
  | _ :: _, [], _, _ => rfl
  | x :: r, y :: s, hx, hy => by
    simp only [D.plains, Bool.and_eq_true] at hx hy
    simp only [toPys, PyData.eqvAll, D.eqvs, toPy_eqv x y hx.1 hy.1, toPys_eqv r s hx.2 hy.2]
end
section
variable {T : Tx} {F : Hp}
mutual
theorem RD.dp : ∀ {v : V} {x : D}, RD T F v x → x.plain = true → Dp T.K F v (toPy x)
  | _, _, .non, _ => .non
  | _, _, .bl b, _ => .bl b
  | _, _, .int i, _ => .int i
  | _, _, .str cs, _ => .str _
  | _, _, .tup h r, e => by simp only [toPy]; exact .tup (.of h) (RDs.dp r e)
  | _, _, .lst h r, e => by simp only [toPy]; exact .lst (.inl h) (RDs.dp r e)
  | _, _, .ins _ _ _, e => by cases e
  | _, _, .dK _ _ _, e => by cases e
  | _, _, .dT _ _ _, e => by cases e
theorem RDs.dp : ∀ {vs : List V} {xs : List D}, RDs T F vs xs → D.plains xs = true → DpAll T.K F vs (toPys xs)
  | _, _, .nil, _ => .nil
  | _, _, .cons h r, e => by
    simp only [D.plains, Bool.and_eq_true] at e
    exact .cons (RD.dp h e.1) (RDs.dp r e.2)
end
mutual
theorem RK.dp {K : PySem.W.Frag} : ∀ {v : V} {x : D}, RK K v x → Dp K F v (toPy x)
  | _, _, .non => .non
  | _, _, .bl b => .bl b
  | _, _, .int i => .int i
  | _, _, .str cs => .str _
  | _, _, .tup h r => by simp only [toPy]; exact .tup (h F) (RKs.dp r)
theorem RKs.dp {K : PySem.W.Frag} : ∀ {vs : List V} {xs : List D}, RKs K vs xs → DpAll K F vs (toPys xs)
  | _, _, .nil => .nil
  | _, _, .cons h r => .cons (RK.dp h) (RKs.dp r)
end
end
end Cn

namespace Cn
open PySem PySem.Spec PyProof.Rows L2

theorem line_eq : sizeLine = line := rfl
section
variable {T : Tx} {xt : Xt} {F : Hp} {ρ : Ro} {H : Hp} {m : Mu} {Q : VK}
abbrev KV1 (T : Tx) (Q : VK) : Hp → Ro → Hp → Mu → W → Prop := fun F' ρ' H' _ z => ∀ v, RW T F' ρ' v z → Q v H'
/-- a value that needs nothing new -/
theorem fin_old {x : W} {v : V} {e : XK} (A : After T xt F ρ (.ok x m) (KV1 T Q) e) (R : Rel T F ρ H m) (h : RW T F ρ v x) : Q v H := A F ρ H R Le.rfl' .rfl' v h
/-- a new tuple, a new list of data -/
theorem fin_tup {xs : List D} {vs : List V} {p : Addr} {e : XK} (A : After T xt F ρ (.ok (.d (.tup xs)) m) (KV1 T Q) e) (R : Rel T F ρ H m) (h : RDs T F vs xs) (n : H p = none) : Q (.ref p) (upd H p (.tup vs)) :=
  A _ ρ _ (R.grow n) (Le.new (R.sub.none n)) .rfl' _ (RD.tup upd_same (h.mono (Le.new (R.sub.none n))))
theorem fin_lst {xs : List D} {vs : List V} {p : Addr} {e : XK} (A : After T xt F ρ (.ok (.d (.lst xs)) m) (KV1 T Q) e) (R : Rel T F ρ H m) (h : RDs T F vs xs) (n : H p = none) : Q (.ref p) (upd H p (.lst vs)) :=
  A _ ρ _ (R.grow n) (Le.new (R.sub.none n)) .rfl' _ (RD.lst (.inl upd_same) (h.mono (Le.new (R.sub.none n))))
/-- a new object -/
theorem fin_obj {o : Fo} {ho : HO} {p : Addr} {e : XK} (A : After T xt F ρ (newR m (.o o)) (KV1 T Q) e) (R : Rel T F ρ H m) (h : RF T F o ho) (n : H p = none) : Q (.ref p) (upd H p ho) :=
  A _ (ρ ++ [(p, [])]) _ (R.alloc n h) Le.rfl' RoLe.snoc _ ⟨(p, []), by rw [← R.len, List.getElem?_append_right (Nat.le_refl _)]; simp, rfl⟩
theorem guard_ok {α : Type} {c : Bool} {r : Res α} {k : Hp → Ro → Hp → Mu → α → Prop} {e : XK} (A : After T xt F ρ (guardR c r) k e) : c = true ∧ After T xt F ρ r k e := by
  cases c with
  | true => exact ⟨rfl, A⟩
  | false => exact A.elim
theorem dec_and {a b : Bool} (h : (a && b) = true) : a = true ∧ b = true := Bool.and_eq_true_iff.mp h
theorem RDs.nilV {vs : List V} (h : RDs T F vs []) : vs = [] := by cases h; rfl
theorem RDs.nil_iff {vs : List V} {xs : List D} (h : RDs T F vs xs) : vs = [] ↔ xs = [] := by cases h <;> simp
/-- what the data reads as: a list, a tuple -/
theorem RD.seqT {v : V} {xs : List D} (h : RD T F v (.tup xs)) : ∃ a vs, v = .ref a ∧ F a = some (.tup vs) ∧ RDs T F vs xs := by
  cases h with
  | tup a b => exact ⟨_, _, rfl, a, b⟩
theorem RD.seqL {v : V} {xs : List D} (h : RD T F v (.lst xs)) : ∃ a vs, v = .ref a ∧ Rd F a (.lst vs) ∧ RDs T F vs xs := by
  cases h with
  | lst a b => exact ⟨_, _, rfl, a, b⟩
theorem RD.intV {v : V} {i : Int} (h : RD T F v (.int i)) : v = .int i := by cases h; rfl
theorem RD.blV {v : V} {b : Bool} (h : RD T F v (.bl b)) : v = .bl b := by cases h; rfl
theorem RD.strV' {v : V} {cs : List Nat} (h : RD T F v (.str cs)) : v = .str (strV cs) := by cases h; rfl
theorem RD.nonV {v : V} (h : RD T F v .non) : v = .non := by cases h; rfl
theorem strV_len (cs : List Nat) : (strV cs).length = cs.length := by simp [strV, Str.length]
theorem strV_app (a b : List Nat) : strV a ++ strV b = strV (a ++ b) := by
  show (⟨_⟩ : Str) = _
  simp [strV]
end

section
variable {T : Tx} {xt : Xt} {X : Cx}
/-- list + list, whatever they are -/
theorem cat_lists {pins : List (Addr × Obj)} {s : Shared} {σ : L2.St} {H : Hp} {a b : Addr} {xs ys : List V} {Q : VK} (I : Inv X pins σ H s) (ha : Rd H a (.lst xs)) (hb : Rd H b (.lst ys)) (hz : xs.length + ys.length ≤ sizeLine)
    (q : ∀ p, H p = none → Q (.ref p) (upd H p (.lst (xs ++ ys)))) : wpAny (model X.prog X.w) X.A (binaryOp .Add (.ref a) (.ref b)) (EP X pins σ Q) X.xe s := by
  obtain ⟨z, its, n, r, e⟩ := ha.ok I.hok
  obtain ⟨z2, its2, n2, r2, e2⟩ := hb.ok I.hok
  have h1 := r.length
  have h2 := r2.length
  refine PySem.P.add_list e e2 ?_ (by rw [List.size_toArray, List.size_toArray]; omega)
  have ea : its.toArray ++ its2.toArray = (its ++ its2).toArray := by simp
  rw [ea]
  exact ⟨.ref _, _, I.lnew (t' := s.toks) (r.append r2) (by rw [List.length_append]; omega), rfl, q _ I.fresh⟩
theorem op_add' (hK : X.K = T.K) : OpR X (binaryOp .Add) (r2 T xt addR) := by
  rintro pins s σ H x y v u Q I rx ry ⟨F, ρ, m, w, u', R, hx, hy, A⟩
  unfold addR at A
  split at A
  · rw [RD.intV hx] at rx
    rw [RD.intV hy] at ry
    exact op_add pins s σ H _ _ v u Q I rx ry ⟨_, _, rfl, rfl, fin_old A R (.int _)⟩
  · obtain ⟨g, A⟩ := guard_ok A
    rw [RD.strV' hx] at rx
    rw [RD.strV' hy] at ry
    refine op_add_str pins s σ H _ _ v u Q I rx ry ⟨_, _, rfl, rfl, ?_, ?_⟩
    · rw [strV_len, strV_len]
      exact of_decide_eq_true g
    · rw [strV_app]
      exact fin_old A R (.str _)
  · obtain ⟨g, A⟩ := guard_ok A
    obtain ⟨a, vs, rfl, ha, h1⟩ := RD.seqT hx
    obtain ⟨b, us, rfl, hb, h2⟩ := RD.seqT hy
    have l1 := h1.length
    have l2 := h2.length
    have z := of_decide_eq_true g
    refine op_catA pins s σ H _ _ v u Q I rx ry ⟨a, b, vs, us, rfl, rfl, .of (R.sub _ _ ha), .of (R.sub _ _ hb), by rw [l1, l2]; exact z, fun e => ?_, fun e1 e2 => ?_, fun _ _ p n => ?_⟩
    · have ex := h1.nil_iff.mp e
      subst ex
      exact fin_old A R (.tup hb h2)
    · have ey := h2.nil_iff.mp e2
      subst ey
      rw [List.append_nil] at A
      exact fin_old A R (.tup ha h1)
    · exact fin_tup A R (h1.append h2) n
  · obtain ⟨g, A⟩ := guard_ok A
    obtain ⟨g1, g3⟩ := dec_and g
    obtain ⟨g1, g2⟩ := dec_and g1
    obtain ⟨a, vs, rfl, ha, h1⟩ := RD.seqT hx
    cases hy with
    | @tup b us _ hb h2 =>
      have l1 := h1.length
      have l2 := h2.length
      have z := of_decide_eq_true g1
      have h3 : RDs T F us _ := h2.atoms g2
      refine op_catA pins s σ H _ _ v u Q I rx ry ⟨a, b, vs, us, rfl, rfl, .of (R.sub _ _ ha), by rw [hK]; exact hb H, by rw [l1, l2]; exact z, fun e => ?_, fun e1 e2 => ?_, fun _ _ p n => ?_⟩
      · have ex := h1.nil_iff.mp e
        subst ex
        cases g3
      · have ey := h3.nil_iff.mp e2
        subst ey
        rw [List.append_nil] at A
        exact fin_old A R (.tup ha h1)
      · exact fin_tup A R (h1.append h3) n
  · obtain ⟨g, A⟩ := guard_ok A
    obtain ⟨a, vs, rfl, ha, h1⟩ := RD.seqL hx
    obtain ⟨b, us, rfl, hb, h2⟩ := RD.seqL hy
    have z := of_decide_eq_true g
    have l1 := h1.length
    have l2 := h2.length
    cases rx
    cases ry
    exact cat_lists I (R.sub.rd ha) (R.sub.rd hb) (by rw [l1, l2]; exact z) fun p n => fin_lst A R (h1.append h2) n
  · exact A.elim
theorem op_sub' : OpR X (binaryOp .Sub) (r2 T xt subR) := by
  rintro pins s σ H x y v u Q I rx ry ⟨F, ρ, m, w, u', R, hx, hy, A⟩
  unfold subR at A
  split at A
  · rw [RD.intV hx] at rx
    rw [RD.intV hy] at ry
    exact op_sub pins s σ H _ _ v u Q I rx ry ⟨_, _, rfl, rfl, fin_old A R (.int _)⟩
  · exact A.elim
theorem op_fdiv' : OpR X (binaryOp .FloorDiv) (r2 T xt fdivR) := by
  rintro pins s σ H x y v u Q I rx ry ⟨F, ρ, m, w, u', R, hx, hy, A⟩
  unfold fdivR at A
  split at A
  · obtain ⟨g, A⟩ := guard_ok A
    obtain ⟨g1, g2⟩ := dec_and g
    rw [RD.intV hx] at rx
    rw [RD.intV hy] at ry
    exact op_fdiv pins s σ H _ _ v u Q I rx ry ⟨_, _, rfl, rfl, ⟨of_decide_eq_true g1, of_decide_eq_true g2⟩, fin_old A R (.int _)⟩
  · exact A.elim
theorem op_mod' : OpR X (binaryOp .Mod) (r2 T xt modR) := by
  rintro pins s σ H x y v u Q I rx ry ⟨F, ρ, m, w, u', R, hx, hy, A⟩
  unfold modR at A
  split at A
  · obtain ⟨g, A⟩ := guard_ok A
    rw [RD.intV hx] at rx
    rw [RD.intV hy] at ry
    exact op_mod pins s σ H _ _ v u Q I rx ry ⟨_, _, rfl, rfl, of_decide_eq_true g, fin_old A R (.int _)⟩
  · exact A.elim
open PySem.SeqRoads2 PySem.MeetsSeq PySem.SeqAt in
theorem tuple_mul1 (l : Addr) (items : Array Value) (n : Nat) (dd : Option Addr) (sl : Array (Option Value)) (x : Int) (u : Tok) (c0 : (decide (x < -(2 ^ 63)) || decide (x ≥ 2 ^ 63)) = false) (c1 : (items.isEmpty || x == 1) = true) :
    Meets (Builtin.«tuple.__mul__» ⟨[.ref l, .int x u], []⟩) (fun _ R s => s.heap.get? l = some { cls := .type "tuple", dict := dd, data := .seq items n, slots := sl } ∧ R (.ok (.ret (Value.ref l))) s) :=
  .of_wp fun prog w A R s h => by
    obtain ⟨hp, g, d, tk, os⟩ := s
    obtain ⟨hl, h⟩ := h
    have f1 := AutoSeq1.idx_int
    wp_walk using AutoSeq1.wpAny_loadPart' hl
    repeat (first
      | (refine wpAny_ite_false (decide_eq_false (by rw [c0]; exact Bool.false_ne_true)) ?_; wp_walk using AutoSeq1.wpAny_loadPart' hl)
      | (refine wpAny_ite_true (decide_eq_true (by rw [c1])) ?_; wp_walk using AutoSeq1.wpAny_loadPart' hl))
    exact ⟨_, rfl, h⟩
open PySem.SeqRoads2 PySem.MeetsSeq PySem.SeqAt in
theorem tuple_mul0 (l : Addr) (items : Array Value) (n : Nat) (dd : Option Addr) (sl : Array (Option Value)) (x : Int) (u : Tok) (c0 : (decide (x < -(2 ^ 63)) || decide (x ≥ 2 ^ 63)) = false) (c1 : (items.isEmpty || x == 1) = false) (c2 : (decide (x ≤ 0) || items.isEmpty) = true) :
    Meets (Builtin.«tuple.__mul__» ⟨[.ref l, .int x u], []⟩) (fun _ R s => s.heap.get? l = some { cls := .type "tuple", dict := dd, data := .seq items n, slots := sl } ∧
      R (.ok (.ret (Value.ref s.heap.objs.size))) { s with heap := s.heap.push { cls := Value.type "tuple", data := Data.seq #[] }, toks := s.toks }) :=
  .of_wp fun prog w A R s h => by
    obtain ⟨hp, g, d, tk, os⟩ := s
    obtain ⟨hl, h⟩ := h
    have f1 := AutoSeq1.idx_int
    wp_walk using AutoSeq1.wpAny_loadPart' hl
    repeat (first
      | (refine wpAny_ite_false (decide_eq_false (by rw [c0]; exact Bool.false_ne_true)) ?_; wp_walk using AutoSeq1.wpAny_loadPart' hl)
      | (refine wpAny_ite_false (decide_eq_false (by rw [c1]; exact Bool.false_ne_true)) ?_; wp_walk using AutoSeq1.wpAny_loadPart' hl)
      | (refine wpAny_ite_true (decide_eq_true (by rw [c2])) ?_; wp_walk using AutoSeq1.wpAny_loadPart' hl))
    exact ⟨_, rfl, h⟩
/-- tuple * int, from 0 on -/
theorem rep_tup {pins : List (Addr × Obj)} {s : Shared} {σ : L2.St} {H : Hp} {l : Addr} {k : Int} {t : Tok} {xs : List V} {Q : VK} (I : Inv X pins σ H s) (hT : SqT X.K H l xs) (h0 : 0 ≤ k) (h2 : k < 1000) (hz : xs.length ≤ 1000)
    (q1 : (List.replicate k.toNat xs).flatten = xs → Q (.ref l) H) (q : ∀ p, H p = none → Q (.ref p) (upd H p (.tup (List.replicate k.toNat xs).flatten))) :
    wpAny (model X.prog X.w) X.A (binaryOp .Mult (.ref l) (.int k t)) (EP X pins σ Q) X.xe s := by
  by_cases hne : xs = []
  · -- the same object
    subst hne
    obtain ⟨its, r, ⟨⟨cls, dd, data, sl⟩, ho, hc, n, hd⟩, hs⟩ := I.tuple hT
    simp only at hc hd
    subst hc hd
    cases r
    have c0 : (decide (k < -(2 ^ 63)) || decide (k ≥ 2 ^ 63)) = false := by
      rw [decide_eq_false (by omega), decide_eq_false (by omega)] <;> rfl
    have c1 : (([] : List Value).toArray.isEmpty || k == 1) = true := rfl
    refine wpAny_binaryOp_repeat_ref (T := "tuple") (U := "int") (by decide) ⟨_, ho, rfl⟩ (fun s' => typeIs_int s' k t) noFill_tuple_mul F.fills_int_mul F.slot_int_rmul repeat_tuple F.slot_int_index.lookup
      (call_meets F.slot_int_rmul (typeIs_int s k t) F.entry_int_rmul (F.args_int_rmul_2 _ _) (int_rmul_tuple k t l _ n dd sl)
        ⟨ho, rfl, ⟨_, ho, rfl⟩, call_meets F.slot_tuple_mul ⟨_, ho, rfl⟩ F.entry_tuple_mul (F.args_tuple_mul_2 _ _) (tuple_mul1 l _ n dd sl k t c0 c1) ⟨ho, ?_⟩⟩)
    exact ⟨.ref l, H, I, rfl, q1 (by simp)⟩
  · by_cases hk : 2 ≤ k
    · exact op_repT pins s σ H (.ref l) (.int k) _ _ Q I rfl ⟨t, rfl⟩ ⟨l, k, xs, rfl, rfl, hT, hne, hk, by omega, hz, q⟩
    · obtain ⟨its, r, ⟨⟨cls, dd, data, sl⟩, ho, hc, n, hd⟩, hs⟩ := I.tuple hT
      simp only at hc hd
      subst hc hd
      have hle : its.length = xs.length := r.length.symm
      have hn : its ≠ [] := fun e => hne (by
        rw [e] at hle
        exact List.eq_nil_of_length_eq_zero hle.symm)
      have hi : its.toArray.isEmpty = false := by
        cases its with
        | nil => exact absurd rfl hn
        | cons a b => rfl
      have c0 : (decide (k < -(2 ^ 63)) || decide (k ≥ 2 ^ 63)) = false := by
        rw [decide_eq_false (by omega), decide_eq_false (by omega)] <;> rfl
      by_cases hk1 : k = 1
      · subst hk1
        have c1 : (its.toArray.isEmpty || (1 : Int) == 1) = true := by rw [hi]; rfl
        refine wpAny_binaryOp_repeat_ref (T := "tuple") (U := "int") (by decide) ⟨_, ho, rfl⟩ (fun s' => typeIs_int s' 1 t) noFill_tuple_mul F.fills_int_mul F.slot_int_rmul repeat_tuple F.slot_int_index.lookup
          (call_meets F.slot_int_rmul (typeIs_int s 1 t) F.entry_int_rmul (F.args_int_rmul_2 _ _) (int_rmul_tuple 1 t l _ n dd sl)
            ⟨ho, rfl, ⟨_, ho, rfl⟩, call_meets F.slot_tuple_mul ⟨_, ho, rfl⟩ F.entry_tuple_mul (F.args_tuple_mul_2 _ _) (tuple_mul1 l _ n dd sl 1 t c0 c1) ⟨ho, ?_⟩⟩)
        exact ⟨.ref l, H, I, rfl, q1 (by simp)⟩
      · have hk0 : k = 0 := by omega
        subst hk0
        have c1 : (its.toArray.isEmpty || (0 : Int) == 1) = false := by rw [hi]; rfl
        have c2 : (decide ((0 : Int) ≤ 0) || its.toArray.isEmpty) = true := rfl
        refine wpAny_binaryOp_repeat_ref (T := "tuple") (U := "int") (by decide) ⟨_, ho, rfl⟩ (fun s' => typeIs_int s' 0 t) noFill_tuple_mul F.fills_int_mul F.slot_int_rmul repeat_tuple F.slot_int_index.lookup
          (call_meets F.slot_int_rmul (typeIs_int s 0 t) F.entry_int_rmul (F.args_int_rmul_2 _ _) (int_rmul_tuple 0 t l _ n dd sl)
            ⟨ho, rfl, ⟨_, ho, rfl⟩, call_meets F.slot_tuple_mul ⟨_, ho, rfl⟩ F.entry_tuple_mul (F.args_tuple_mul_2 _ _) (tuple_mul0 l _ n dd sl 0 t c0 c1 c2) ⟨ho, ?_⟩⟩)
        refine ⟨.ref s.heap.objs.size, _, I.laid (t' := s.toks) (o := .tup (List.replicate (0 : Int).toNat xs).flatten) (fun b ob q => Heap.get?_push_of_some _ q) (Nat.le_refl _) ?_, rfl, q _ (I.hok.fresh (Nat.le_refl _))⟩
        exact ⟨Nat.zero_le _, [], .nil, IsTup.new _ _⟩
/-- list * int, whatever list -/
theorem rep_lst {pins : List (Addr × Obj)} {s : Shared} {σ : L2.St} {H : Hp} {l : Addr} {k : Int} {t : Tok} {xs : List V} {Q : VK} (I : Inv X pins σ H s) (hT : Rd H l (.lst xs)) (h0 : 0 ≤ k) (h2 : k < 1000) (hz : xs.length ≤ 1000)
    (q : ∀ p, H p = none → Q (.ref p) (upd H p (.lst (List.replicate k.toNat xs).flatten))) :
    wpAny (model X.prog X.w) X.A (binaryOp .Mult (.ref l) (.int k t)) (EP X pins σ Q) X.xe s := by
  obtain ⟨z, its, n, r, e⟩ := hT.ok I.hok
  have hl : its.toArray.size = xs.length := by rw [List.size_toArray, r.length]
  have hs : sizeLine = 16777216 := rfl
  have hm : xs.length * k.toNat ≤ 1000 * 1000 := Nat.mul_le_mul hz (by omega)
  have c1 : ¬ its.toArray.size * k.toNat > (2 ^ 63 - 1) / 8 := by rw [hl]; omega
  have c2 : ¬ (!Builtin.List.listFitsIndex k) = true := by rw [fitsIndex_both (by omega) (by omega)]; decide
  have c3 : ¬ Builtin.List.listTooLong (its.toArray.size * k.toNat) = true := by rw [notLongL (by rw [hl]; omega)]; decide
  have hf : List.foldl (fun x1 x2 => x1 ++ x2) #[] (List.replicate (if its.toArray.isEmpty = true then 0 else k.toNat) its.toArray) = (List.replicate k.toNat its).flatten.toArray := by
    cases its with
    | nil => simp
    | cons a b =>
      rw [if_neg (by simp)]
      have := foldl_rep (a :: b) k.toNat []
      rwa [List.nil_append] at this
  have body := AutoListH.list___mul___list_int_3 l its.toArray n k t c2 c1 c3
  refine wpAny_binaryOp_repeat_ref (T := "list") (U := "int") (by decide) ⟨_, e, rfl⟩ (fun s' => typeIs_int s' k t) noFill_list_mul F.fills_int_mul F.slot_int_rmul repeat_list F.slot_int_index.lookup ?_
  refine call_meets F.slot_int_rmul (typeIs_int s k t) F.entry_int_rmul (F.args_int_rmul_2 _ _) (int___rmul___int_list k t l its.toArray n) ⟨e, rfl, ⟨_, e, rfl⟩, ?_⟩
  refine call_meets F.slot_list_mul ⟨_, e, rfl⟩ F.entry_list_mul (F.args_list_mul_2 _ _) body ⟨e, ?_⟩
  rw [hf]
  exact ⟨.ref _, _, I.lnew (t' := s.toks) (r.rep k.toNat) (by rw [PyProof.Rows.lm_len_rep_flat, Nat.mul_comm]; omega), rfl, q _ I.fresh⟩
theorem op_mul' (hK : X.K = T.K) : OpR X (binaryOp .Mult) (r2 T xt mulR) := by
  rintro pins s σ H x y v u Q I rx ry ⟨F, ρ, m, w, u', R, hx, hy, A⟩
  unfold mulR at A
  split at A
  · obtain ⟨g, A⟩ := guard_ok A
    obtain ⟨g1, g2⟩ := dec_and g
    rw [RD.intV hx] at rx
    rw [RD.intV hy] at ry
    exact op_mul pins s σ H _ _ v u Q I rx ry ⟨_, _, rfl, rfl, .inl ⟨of_decide_eq_true g1, of_decide_eq_true g2⟩, fin_old A R (.int _)⟩
  · obtain ⟨g, A⟩ := guard_ok A
    obtain ⟨g1, g3⟩ := dec_and g
    obtain ⟨g1, g2⟩ := dec_and g1
    obtain ⟨a, vs, rfl, ha, h1⟩ := RD.seqT hx
    rw [RD.intV hy] at ry
    obtain ⟨t, rfl⟩ := ry
    cases rx
    refine rep_tup I (.of (R.sub _ _ ha)) (of_decide_eq_true g1) (of_decide_eq_true g2) (by rw [h1.length]; exact of_decide_eq_true g3) (fun e => ?_) fun p n => fin_tup A R (h1.rep _) n
    refine fin_old A R (.tup ha ?_)
    have h2 := h1.rep (Int.toNat ‹Int›)
    rw [e] at h2
    exact h2
  · obtain ⟨g, A⟩ := guard_ok A
    obtain ⟨g1, g3⟩ := dec_and g
    obtain ⟨g1, g2⟩ := dec_and g1
    obtain ⟨a, vs, rfl, ha, h1⟩ := RD.seqL hx
    rw [RD.intV hy] at ry
    obtain ⟨t, rfl⟩ := ry
    cases rx
    exact rep_lst I (R.sub.rd ha) (of_decide_eq_true g1) (of_decide_eq_true g2) (by rw [h1.length]; exact of_decide_eq_true g3) fun p n => fin_lst A R (h1.rep _) n
  · exact A.elim
end
end Cn

namespace Cn
open PySem PySem.Spec PyProof.Rows L2

section
variable {T : Tx} {xt : Xt} {F : Hp} {ρ : Ro} {H : Hp} {m : Mu} {Q : VK}
theorem allU_rds {as : List Addr} : ∀ {us : List U} {vs : List V} {xs : List D}, RUs T F as vs us → allU us = some xs → RDs T F vs xs
  | [], _, _, .nil, e => by cases e; exact .nil
  | .d x :: r, _, _, .cons h t, e => by
    unfold allU at e
    split at e
    · rename_i ys q
      cases e
      exact .cons h (allU_rds t q)
    · cases e
  | .i _ :: r, _, _, .cons h t, e => by cases e
theorem Rel.at (R : Rel T F ρ H m) {n : Nat} {p : Addr × List Addr} {g : Gr} (e : ρ[n]? = some p) (q : m[n]? = some (some g)) : ∃ ow, RG T F H ow n p g := by
  obtain ⟨ow, h⟩ := R.ex
  exact ⟨ow, h n p g e q⟩
theorem Rel.roI (R : Rel T F ρ H m) {n f : Nat} {a : Addr} {g : Gr} {o : Fo} (e : roI ρ n f = some a) (q : m[n]? = some (some g)) (qf : g.inn[f]? = some (some o)) : ∃ p u, ρ[n]? = some p ∧ p.2[f]? = some a ∧ H a = some u ∧ RF T F o u ∧ F a = none := by
  unfold Cn.roI at e
  cases z : ρ[n]? with
  | none => rw [z] at e; cases e
  | some p =>
    rw [z] at e
    obtain ⟨ow, h⟩ := R.at z q
    obtain ⟨_, h2, u, h3, h4⟩ := h.inn f a o e qf
    exact ⟨p, u, rfl, e, h3, h4, h2⟩
/-- a list that may change: what it holds -/
theorem Rel.lstD (R : Rel T F ρ H m) {p : Addr × List Addr} {n : Nat} {r : Ob} {xs : List D} (e : ρ[n]? = some p) (hr : rootAt m n = some r) (hl : r.lstD = some xs) : ∃ vs, H p.1 = some (.lst vs) ∧ RDs T F vs xs := by
  obtain ⟨g, hg, rfl⟩ := rootAt_some hr
  obtain ⟨ow, h⟩ := R.at e hg
  obtain ⟨o, h1, h2⟩ := h.root
  cases hq : g.root with
  | lst us =>
    rw [hq] at hl h2
    obtain ⟨vs, rfl, h3⟩ := h2
    exact ⟨vs, h1, allU_rds h3 hl⟩
  | ins c us => rw [hq] at hl; cases hl
  | o f =>
    rw [hq] at hl h2
    cases f with
    | lst ys =>
      cases hl
      obtain ⟨vs, rfl, h3⟩ := h2
      exact ⟨vs, h1, h3⟩
    | dK _ _ => cases hl
    | dT _ _ => cases hl
/-- what is to be read of a value -/
theorem Rel.rdH (R : Rel T F ρ H m) {v : V} {w : W} {x : D} (hw : RW T F ρ v w) (e : rd m w = some x) : RD T H v x ∨ RK T.K v x := by
  cases w with
  | d y => cases e; exact .inl (RD.mono R.sub hw)
  | kt y => cases e; exact .inr hw
  | h n =>
    obtain ⟨p, e1, rfl⟩ := hw
    simp only [rd] at e
    split at e
    · rename_i r hr
      split at e
      · rename_i xs hl
        cases e
        obtain ⟨vs, h1, h2⟩ := R.lstD e1 hr hl
        exact .inl (.lst (.inl h1) (h2.mono R.sub))
      · cases e
    · cases e
  | hi n f =>
    obtain ⟨a, e1, rfl⟩ := hw
    simp only [rd] at e
    split at e
    · rename_i xs hx
      cases e
      obtain ⟨g, hg, hf⟩ := inAt_some hx
      obtain ⟨p, u, _, _, h1, ⟨vs, rfl, h2⟩, _⟩ := R.roI e1 hg hf
      exact .inl (.lst (.inl h1) (h2.mono R.sub))
    · cases e
  | clo _ _ => cases e
theorem Rel.rdDp (R : Rel T F ρ H m) {v : V} {w : W} {x : D} (hw : RW T F ρ v w) (e : rd m w = some x) (hp : x.plain = true) : Dp T.K H v (toPy x) := by
  rcases R.rdH hw e with h | h
  · exact h.dp hp
  · exact h.dp
end
theorem any_eqv {x : D} (hx : x.plain = true) : ∀ {ys : List D}, D.plains ys = true → ((toPys ys).any fun y => PyData.eqv y (toPy x)) = ys.any fun y => y.eqv x
  | [], _ => rfl
  | y :: r, h => by
    simp only [D.plains, Bool.and_eq_true] at h
    simp only [toPys, List.any_cons, toPy_eqv y x h.1 hx, any_eqv hx h.2]

section
variable {T : Tx} {xt : Xt} {X : Cx}
abbrev r2B (T : Tx) (xt : Xt) (f : Mu → W → W → Res Bool) : R2 := r2 T xt fun m a b => blR (f m a b)
theorem ok_bl {F : Hp} {ρ : Ro} {H : Hp} {m : Mu} {Q : VK} {b : Bool} {e : XK} (A : After T xt F ρ (blR (.ok b m)) (KV1 T Q) e) (R : Rel T F ρ H m) : Q (.bl b) H := fin_old A R (.bl b)
theorem ordR' {op : CmpOp} {p : Int → Int → Bool} (hop : OpR X (compareOp op) (rI0 fun i j => .bl (p i j))) : OpR X (compareOp op) (r2B T xt fun m => ordR m p) := by
  rintro pins s σ H x y v u Q I rx ry ⟨F, ρ, m, w, u', R, hx, hy, A⟩
  replace A : After T xt F ρ (blR (ordR m p w u')) (KV1 T Q) (fun _ _ _ => True) := A
  unfold ordR at A
  split at A
  · rw [RD.intV hx] at rx
    rw [RD.intV hy] at ry
    exact hop pins s σ H _ _ v u Q I rx ry ⟨_, _, rfl, rfl, ok_bl A R⟩
  · exact A.elim
theorem eqR_cases (m : Mu) (w u : W) : eqR m w u = .stuck ∨ ∃ a b, rd m w = some a ∧ rd m u = some b ∧ a.plain = true ∧ b.plain = true ∧ min a.depth b.depth ≤ 64 ∧ eqR m w u = .ok (a.eqv b) m := by
  unfold eqR
  split
  · rename_i a b ea eb
    cases q : (a.plain && b.plain && decide (min a.depth b.depth ≤ 64)) with
    | true =>
      obtain ⟨g1, g3⟩ := dec_and q
      obtain ⟨g1, g2⟩ := dec_and g1
      exact .inr ⟨a, b, ea, eb, g1, g2, of_decide_eq_true g3, rfl⟩
    | false => exact .inl rfl
  · exact .inl rfl
theorem eqR_reads {pins : List (Addr × Obj)} {s : Shared} {σ : L2.St} {H : Hp} {x y : V} {v u : Value} {F : Hp} {ρ : Ro} {m : Mu} {w w' : W} {a b : D} (hK : X.K = T.K) (hu : X.A.units + 66 < cLine) (I : Inv X pins σ H s) (rx : RelV x v) (ry : RelV y u)
    (R : Rel T F ρ H m) (hx : RW T F ρ x w) (hy : RW T F ρ y w') (ea : rd m w = some a) (eb : rd m w' = some b) (g1 : a.plain = true) (g2 : b.plain = true) (g3 : min a.depth b.depth ≤ 64) :
    ∃ as bs, Reads s.heap v (toPy a) as ∧ Reads s.heap u (toPy b) bs ∧ X.A.units + min (toPy a).depth (toPy b).depth < cLine := by
  have d1 := R.rdDp hx ea g1
  have d2 := R.rdDp hy eb g2
  rw [← hK] at d1 d2
  obtain ⟨as, q1⟩ := Dp.reads I _ _ _ d1 rx
  obtain ⟨bs, q2⟩ := Dp.reads I _ _ _ d2 ry
  exact ⟨as, bs, q1, q2, by rw [toPy_depth, toPy_depth]; omega⟩
theorem op_eq' (hK : X.K = T.K) (hu : X.A.units + 66 < cLine) : OpR X (compareOp .Eq) (r2B T xt eqR) := by
  rintro pins s σ H x y v u Q I rx ry ⟨F, ρ, m, w, u', R, hx, hy, A⟩
  replace A : After T xt F ρ (blR (eqR m w u')) (KV1 T Q) (fun _ _ _ => True) := A
  rcases eqR_cases m w u' with e | ⟨a, b, ea, eb, g1, g2, g3, e⟩ <;> rw [e] at A
  · exact A.elim
  · obtain ⟨as, bs, q1, q2, hd⟩ := eqR_reads hK hu I rx ry R hx hy ea eb g1 g2 g3
    refine SeqAt.eq_plain q1 q2 (toPy_plain _) (toPy_plain _) hd ?_
    rw [toPy_eqv _ _ g1 g2]
    exact ⟨.bl _, H, I, rfl, ok_bl A R⟩
theorem op_ne' (hK : X.K = T.K) (hu : X.A.units + 66 < cLine) : OpR X (compareOp .NotEq) (r2B T xt fun m a b => notR (eqR m a b)) := by
  rintro pins s σ H x y v u Q I rx ry ⟨F, ρ, m, w, u', R, hx, hy, A⟩
  replace A : After T xt F ρ (blR (notR (eqR m w u'))) (KV1 T Q) (fun _ _ _ => True) := A
  rcases eqR_cases m w u' with e | ⟨a, b, ea, eb, g1, g2, g3, e⟩ <;> rw [e] at A
  · exact A.elim
  · obtain ⟨as, bs, q1, q2, hd⟩ := eqR_reads hK hu I rx ry R hx hy ea eb g1 g2 g3
    refine SeqAt.ne_plain q1 q2 (toPy_plain _) (toPy_plain _) hd ?_
    rw [toPy_eqv _ _ g1 g2]
    exact ⟨.bl _, H, I, rfl, ok_bl A R⟩
def isNonD : D → Bool
  | .non => true
  | _ => false
theorem isNR_cases (m : Mu) (w u : W) : isNR m w u = .stuck ∨ u = .d .non ∧ ∃ x, w = .d x ∧ isNR m w u = .ok (isNonD x) m := by
  unfold isNR
  split
  · unfold noneR
    split
    · exact .inr ⟨rfl, _, rfl, rfl⟩
    · rename_i y h
      refine .inr ⟨rfl, y, rfl, ?_⟩
      cases y <;> first | rfl | exact absurd rfl h
    · exact .inl rfl
  · exact .inl rfl
theorem non_dec {F : Hp} {x : V} {y : D} (h : RD T F x y) : decide (x = V.non) = isNonD y := by
  cases h <;> simp [isNonD]
theorem op_is' : OpR X (compareOp .Is) (r2B T xt isNR) := by
  rintro pins s σ H x y v u Q I rx ry ⟨F, ρ, m, w, u', R, hx, hy, A⟩
  replace A : After T xt F ρ (blR (isNR m w u')) (KV1 T Q) (fun _ _ _ => True) := A
  rcases isNR_cases m w u' with e | ⟨rfl, z, rfl, e⟩ <;> rw [e] at A
  · exact A.elim
  · exact op_isN pins s σ H x y v u Q I rx ry ⟨RD.nonV hy, by rw [non_dec hx]; exact ok_bl A R⟩
theorem op_isnot' : OpR X (compareOp .IsNot) (r2B T xt fun m a b => notR (isNR m a b)) := by
  rintro pins s σ H x y v u Q I rx ry ⟨F, ρ, m, w, u', R, hx, hy, A⟩
  replace A : After T xt F ρ (blR (notR (isNR m w u'))) (KV1 T Q) (fun _ _ _ => True) := A
  rcases isNR_cases m w u' with e | ⟨rfl, z, rfl, e⟩ <;> rw [e] at A
  · exact A.elim
  · exact op_notN pins s σ H x y v u Q I rx ry ⟨RD.nonV hy, by rw [non_dec hx]; exact ok_bl A R⟩
/-! ### in -/
theorem inSeq_cases (m : Mu) (w u : W) : inSeq m w u = .stuck ∨ ∃ a ys b, rd m w = some a ∧ rd m u = some b ∧ (b = .tup ys ∨ b = .lst ys) ∧ a.plain = true ∧ D.plains ys = true ∧ min (D.depths ys) a.depth ≤ 64 ∧ inSeq m w u = .ok (ys.any fun y => y.eqv a) m := by
  unfold inSeq
  split
  · rename_i a ys ea eb
    cases q : (a.plain && D.plains ys && decide (min (D.depths ys) a.depth ≤ 64)) with
    | true =>
      obtain ⟨g1, g3⟩ := dec_and q
      obtain ⟨g1, g2⟩ := dec_and g1
      exact .inr ⟨a, ys, _, ea, eb, .inl rfl, g1, g2, of_decide_eq_true g3, rfl⟩
    | false => exact .inl rfl
  · rename_i a ys ea eb
    cases q : (a.plain && D.plains ys && decide (min (D.depths ys) a.depth ≤ 64)) with
    | true =>
      obtain ⟨g1, g3⟩ := dec_and q
      obtain ⟨g1, g2⟩ := dec_and g1
      exact .inr ⟨a, ys, _, ea, eb, .inr rfl, g1, g2, of_decide_eq_true g3, rfl⟩
    | false => exact .inl rfl
  · exact .inl rfl
theorem in_reads {pins : List (Addr × Obj)} {s : Shared} {σ : L2.St} {H : Hp} {x y : V} {v u : Value} {F : Hp} {ρ : Ro} {m : Mu} {w w' : W} {a : D} {ys : List D} {b : D} (hK : X.K = T.K) (hu : X.A.units + 66 < cLine) (I : Inv X pins σ H s) (rx : RelV x v) (ry : RelV y u)
    (R : Rel T F ρ H m) (hx : RW T F ρ x w) (hy : RW T F ρ y w') (ea : rd m w = some a) (eb : rd m w' = some b) (hb : b = .tup ys ∨ b = .lst ys) (g1 : a.plain = true) (g2 : D.plains ys = true) (g3 : min (D.depths ys) a.depth ≤ 64) :
    ∃ as bs, Reads s.heap v (toPy a) as ∧ (Reads s.heap u (.tuple (toPys ys)) bs ∨ Reads s.heap u (.list (toPys ys)) bs) ∧ X.A.units + 1 + min (PyData.depthAll (toPys ys)) (toPy a).depth < cLine := by
  have d1 := R.rdDp hx ea g1
  have d2 := R.rdDp hy eb (by rcases hb with rfl | rfl <;> exact g2)
  rw [← hK] at d1 d2
  obtain ⟨as, q1⟩ := Dp.reads I _ _ _ d1 rx
  obtain ⟨bs, q2⟩ := Dp.reads I _ _ _ d2 ry
  refine ⟨as, bs, q1, ?_, by rw [toPy_depth, toPys_depth]; omega⟩
  rcases hb with rfl | rfl
  · exact .inl (by simpa only [toPy] using q2)
  · exact .inr (by simpa only [toPy] using q2)
theorem op_inSeq (hK : X.K = T.K) (hu : X.A.units + 66 < cLine) : OpR X (compareOp .In) (r2B T xt inSeq) := by
  rintro pins s σ H x y v u Q I rx ry ⟨F, ρ, m, w, u', R, hx, hy, A⟩
  replace A : After T xt F ρ (blR (inSeq m w u')) (KV1 T Q) (fun _ _ _ => True) := A
  rcases inSeq_cases m w u' with e | ⟨a, ys, b, ea, eb, hb, g1, g2, g3, e⟩ <;> rw [e] at A
  · exact A.elim
  · obtain ⟨as, bs, q1, q2, hd⟩ := in_reads hK hu I rx ry R hx hy ea eb hb g1 g2 g3
    rcases q2 with q2 | q2
    · refine SeqAt.in_tuple_data q2 q1 (toPys_plain _) (toPy_plain _) hd ?_
      rw [any_eqv g1 g2]
      exact ⟨.bl _, H, I, rfl, ok_bl A R⟩
    · refine SeqAt.in_list_data q2 q1 (toPys_plain _) (toPy_plain _) hd ?_
      rw [any_eqv g1 g2]
      exact ⟨.bl _, H, I, rfl, ok_bl A R⟩
theorem op_ninSeq (hK : X.K = T.K) (hu : X.A.units + 66 < cLine) : OpR X (compareOp .NotIn) (r2B T xt fun m a b => notR (inSeq m a b)) := by
  rintro pins s σ H x y v u Q I rx ry ⟨F, ρ, m, w, u', R, hx, hy, A⟩
  replace A : After T xt F ρ (blR (notR (inSeq m w u'))) (KV1 T Q) (fun _ _ _ => True) := A
  rcases inSeq_cases m w u' with e | ⟨a, ys, b, ea, eb, hb, g1, g2, g3, e⟩ <;> rw [e] at A
  · exact A.elim
  · obtain ⟨as, bs, q1, q2, hd⟩ := in_reads hK hu I rx ry R hx hy ea eb hb g1 g2 g3
    rcases q2 with q2 | q2
    · refine SeqAt.notIn_tuple_data q2 q1 (toPys_plain _) (toPy_plain _) hd ?_
      rw [any_eqv g1 g2]
      exact ⟨.bl _, H, I, rfl, ok_bl A R⟩
    · refine SeqAt.notIn_list_data q2 q1 (toPys_plain _) (toPy_plain _) hd ?_
      rw [any_eqv g1 g2]
      exact ⟨.bl _, H, I, rfl, ok_bl A R⟩
end
end Cn

/-! # an object becomes data -/
namespace Cn
open PySem PySem.Spec PyProof.Rows L2
section
variable {T : Tx} {F F' H : Hp} {ρ : Ro} {m : Mu}
theorem Le.sandwich {F H : Hp} (l : Le F H) (p : Addr → Prop) [DecidablePred p] : Le F (fun a => if p a then H a else F a) ∧ Le (fun a => if p a then H a else F a) H := by
  refine ⟨fun a o e => ?_, fun a o e => ?_⟩
  · show (if p a then H a else F a) = some o
    by_cases h : p a
    · rw [if_pos h]; exact l a o e
    · rw [if_neg h]; exact e
  · have e' : (if p a then H a else F a) = some o := e
    by_cases h : p a
    · rw [if_pos h] at e'; exact e'
    · rw [if_neg h] at e'; exact l a o e'
theorem RF.data {a : Addr} {f : Fo} {o : HO} (h : RF T F f o) (e : F a = some o) : RD T F (.ref a) f.data := by
  cases f with
  | lst xs => obtain ⟨vs, rfl, r⟩ := h; exact .lst (.inl e) r
  | dK ks xs => obtain ⟨vs, rfl, n, r⟩ := h; exact .dK e n r
  | dT ks xs => obtain ⟨vs, rfl, n, r⟩ := h; exact .dT e n r
theorem dataU_rds {as : List Addr} {inn : List (Option Fo)} (hi : ∀ (f : Nat) (b : Addr) (o : Fo), as[f]? = some b → inn[f]? = some (some o) → RD T F (.ref b) o.data) : ∀ {us : List U} {vs : List V} {xs : List D}, RUs T F as vs us → dataU inn us = some xs → RDs T F vs xs
  | [], _, _, .nil, e => by cases e; exact .nil
  | .d x :: r, _, _, .cons h t, e => by
    unfold dataU at e
    split at e
    · rename_i ys q
      cases e
      exact .cons h (dataU_rds hi t q)
    · cases e
  | .i f :: r, _, _, .cons h t, e => by
    unfold dataU at e
    split at e
    · rename_i o qo
      split at e
      · rename_i ys q
        cases e
        obtain ⟨a, e1, rfl⟩ := h
        exact .cons (hi f a o e1 qo) (dataU_rds hi t q)
      · cases e
    · cases e
theorem fzR_cases {m : Mu} {w : W} : fzR m w = .stuck ∨ (∃ x, w = .d x ∧ fzR m w = .ok x m) ∨ (∃ n g x, w = .h n ∧ m[n]? = some (some g) ∧ g.data = some x ∧ fzR m w = .ok x (m.set n none)) ∨
    (∃ n f g o, w = .hi n f ∧ m[n]? = some (some g) ∧ g.inn[f]? = some (some o) ∧ fzR m w = .ok o.data (m.set n (some { g with inn := g.inn.set f none }))) := by
  unfold fzR
  split
  · exact .inr (.inl ⟨_, rfl, rfl⟩)
  · rename_i n
    split
    · rename_i g hg
      split
      · rename_i x hx
        exact .inr (.inr (.inl ⟨_, _, _, rfl, grAt_some hg, hx, rfl⟩))
      · exact .inl rfl
    · exact .inl rfl
  · rename_i n f
    split
    · rename_i o ho
      obtain ⟨g, hg, hf⟩ := inAt_some ho
      have hs : Cn.setIn m n f none = m.set n (some { g with inn := g.inn.set f none }) := by
        unfold Cn.setIn grAt; rw [hg]
      exact .inr (.inr (.inr ⟨_, _, g, o, rfl, hg, hf, by rw [hs]⟩))
    · exact .inl rfl
  · exact .inl rfl
/-- what was an object is data -/
theorem Rel.freeze (R : Rel T F ρ H m) {v : V} {w : W} {x : D} {m' : Mu} (hw : RW T F ρ v w) (e : fzR m w = .ok x m') : ∃ F', Le F F' ∧ Rel T F' ρ H m' ∧ RD T F' v x := by
  classical
  rcases fzR_cases (m := m) (w := w) with q | ⟨y, rfl, q⟩ | ⟨n, g, y, rfl, hg, hy, q⟩ | ⟨n, f, g, o, rfl, hg, hf, q⟩
  · rw [q] at e; cases e
  · rw [q] at e; cases e
    exact ⟨F, Le.rfl', R, hw⟩
  · rw [q] at e; cases e
    obtain ⟨p, e1, rfl⟩ := hw
    obtain ⟨ow, hx⟩ := R.ex
    have hn := hx n p g e1 hg
    obtain ⟨l1, l2⟩ := R.sub.sandwich fun a => (ow a).1 = n ∧ T.side a = none
    refine ⟨_, l1, ⟨l2, by simp [R.len], ⟨ow, fun k p' g' e' q' => ?_⟩, R.sd, fun a o e => ?_⟩, ?_⟩
    · by_cases hk : n = k
      · subst hk
        rw [List.getElem?_set_self (List.getElem?_eq_some_iff.mp hg).1] at q'
        cases q'
      · rw [List.getElem?_set_ne hk] at q'
        obtain ⟨h1, h2, ⟨o1, h3, h3'⟩, h4, h5, h6⟩ := hx k p' g' e' q'
        refine ⟨h1, ?_, ⟨o1, h3, h3'.monoF l1⟩, h4, fun f b u e1 e2 => ?_, h6⟩
        · show (if (ow p'.1).1 = n ∧ T.side p'.1 = none then H p'.1 else F p'.1) = none
          rw [if_neg (by rw [h1]; exact fun z => hk z.1.symm)]
          exact h2
        · obtain ⟨k1, k2, u', k3, k4⟩ := h5 f b u e1 e2
          refine ⟨k1, ?_, u', k3, k4.mono l1⟩
          show (if (ow b).1 = n ∧ T.side b = none then H b else F b) = none
          rw [if_neg (by rw [k1]; exact fun z => hk z.1.symm)]
          exact k2
    · show (if (ow a).1 = n ∧ T.side a = none then H a else F a) = none
      rw [if_neg (fun z => by rw [z.2] at e; cases e)]
      exact R.sf a o e
    · obtain ⟨o, h3, h3'⟩ := hn.root
      have at_ : (fun a => if (ow a).1 = n ∧ T.side a = none then H a else F a) p.1 = some o := by
        show (if (ow p.1).1 = n ∧ T.side p.1 = none then H p.1 else F p.1) = some o
        rw [if_pos ⟨by rw [hn.own], hn.sd.1⟩, h3]
      have inn_ : ∀ (f : Nat) (b : Addr) (o : Fo), p.2[f]? = some b → g.inn[f]? = some (some o) → RD T (fun a => if (ow a).1 = n ∧ T.side a = none then H a else F a) (.ref b) o.data := fun f b o eb eo => by
        obtain ⟨k1, k2, u', k3, k4⟩ := hn.inn f b o eb eo
        refine (k4.mono l1).data ?_
        show (if (ow b).1 = n ∧ T.side b = none then H b else F b) = some u'
        rw [if_pos ⟨by rw [k1], hn.sd.2 f b o eb eo⟩, k3]
      unfold Gr.data at hy
      split at hy
      · rename_i us hr
        split at hy
        · rename_i xs hxs
          cases hy
          rw [hr] at h3'
          obtain ⟨vs, rfl, r⟩ := h3'
          have r' := RUs.mono (bs := []) l1 r
          rw [List.append_nil] at r'
          exact .lst (.inl at_) (dataU_rds inn_ r' hxs)
        · cases hy
      · rename_i c us hr
        split at hy
        · rename_i xs hxs
          cases hy
          rw [hr] at h3'
          obtain ⟨dx, vs, rfl, nl, r⟩ := h3'
          have r' := RUs.mono (bs := []) l1 r
          rw [List.append_nil] at r'
          exact .ins at_ nl (dataU_rds inn_ r' hxs)
        · cases hy
      · rename_i fo hr
        cases hy
        rw [hr] at h3'
        exact (RF.mono l1 h3').data at_
  · rw [q] at e; cases e
    obtain ⟨a, e1, rfl⟩ := hw
    obtain ⟨ow, hx⟩ := R.ex
    unfold Cn.roI at e1
    cases z : ρ[n]? with
    | none => rw [z] at e1; cases e1
    | some p =>
      rw [z] at e1
      have e1' : p.2[f]? = some a := e1
      have hn := hx n p g z hg
      obtain ⟨b1, b2, u, b3, b4⟩ := hn.inn f a o e1' hf
      obtain ⟨l1, l2⟩ := R.sub.sandwich fun b => ow b = (n, some f) ∧ T.side b = none
      refine ⟨_, l1, ⟨l2, by simp [R.len], ⟨ow, fun k p' g' e' q' => ?_⟩, R.sd, fun a_1 o_1 e_1 => ?_⟩, ?_⟩
      · have other : ∀ (b : Addr) (y : Nat × Option Nat), ow b = y → y ≠ (n, some f) → F b = none → (if ow b = (n, some f) ∧ T.side b = none then H b else F b) = none := fun b y e1 e2 e3 => by
          rw [if_neg (by rw [e1]; exact fun z => e2 z.1)]
          exact e3
        by_cases hk : n = k
        · subst hk
          rw [z] at e'
          cases e'
          rw [List.getElem?_set_self (List.getElem?_eq_some_iff.mp hg).1] at q'
          cases q'
          obtain ⟨o1, h3, h3'⟩ := hn.root
          refine ⟨hn.own, other _ _ hn.own (by simp) hn.fr, ⟨o1, h3, h3'.monoF l1⟩, by simpa using hn.len, fun f' b u e1 e2 => ?_, hn.sd.1, fun f' b u e1 e2 => ?_⟩
          rotate_left
          · have e2' : (g.inn.set f none)[f']? = some (some u) := e2
            by_cases hff : f = f'
            · subst hff
              rw [List.getElem?_set_self (List.getElem?_eq_some_iff.mp hf).1] at e2'
              cases e2'
            · rw [List.getElem?_set_ne hff] at e2'
              exact hn.sd.2 f' b u e1 e2'
          by_cases hff : f = f'
          · subst hff
            have e2' : (g.inn.set f none)[f]? = some (some u) := e2
            rw [List.getElem?_set_self (List.getElem?_eq_some_iff.mp hf).1] at e2'
            cases e2'
          · have e2' : (g.inn.set f none)[f']? = some (some u) := e2
            rw [List.getElem?_set_ne hff] at e2'
            obtain ⟨k1, k2, u', k3, k4⟩ := hn.inn f' b u e1 e2'
            exact ⟨k1, other _ _ k1 (fun z => hff (by have := congrArg Prod.snd z; simpa using this.symm)) k2, u', k3, k4.mono l1⟩
        · rw [List.getElem?_set_ne hk] at q'
          obtain ⟨h1, h2, ⟨o1, h3, h3'⟩, h4, h5, h6⟩ := hx k p' g' e' q'
          refine ⟨h1, other _ _ h1 (by simp) h2, ⟨o1, h3, h3'.monoF l1⟩, h4, fun f' b u e1 e2 => ?_, h6⟩
          obtain ⟨k1, k2, u', k3, k4⟩ := h5 f' b u e1 e2
          exact ⟨k1, other _ _ k1 (fun z => hk (congrArg Prod.fst z).symm) k2, u', k3, k4.mono l1⟩
      · show (if ow a_1 = (n, some f) ∧ T.side a_1 = none then H a_1 else F a_1) = none
        rw [if_neg (fun z => by rw [z.2] at e_1; cases e_1)]
        exact R.sf a_1 o_1 e_1
      · refine (b4.mono l1).data ?_
        show (if ow a = (n, some f) ∧ T.side a = none then H a else F a) = some u
        rw [if_pos ⟨b1, hn.sd.2 f a o e1' hf⟩, b3]
end
end Cn

/-! # the expressions: each form keeps what the evaluator says -/
namespace Cn
open PySem PySem.Spec PyProof.Rows L2

/-- a callee's promise: what the evaluator says of it -/
def spR (T : Tx) (xt : Xt) (c : List W → Mu → Res W) : Sp := fun vs H Q E => ∃ F ρ m ws, Rel T F ρ H m ∧ RWs T F ρ vs ws ∧ After T xt F ρ (c ws m) (KV1 T Q) (fun c dx H' => E c dx H')

section
variable {T : Tx} {xt : Xt} {W' : WX} {σ : L2.St} {H : Hp} {F : Hp} {ρ : Ro} {m : Mu}
theorem PW.imp {X : Cx} {e : Expr} {t t' : TT} (h : L2.PW X e t) (i : ∀ σ H Q, t' σ H Q → t σ H Q) : L2.PW X e t' := ⟨fun wh pins s σ H Q I q => h.run wh pins s σ H Q I (i σ H Q q)⟩
theorem PI.imp {X : Cx} {tg e : Expr} {t t' : TI} (h : L2.PI X tg e t) (i : ∀ σ H Q, t' σ H Q → t σ H Q) : L2.PI X tg e t' := ⟨fun pins s σ H Q I q => h.run pins s σ H Q I (i σ H Q q)⟩

/-- a value at once -/
theorem tE_now {ev : Sl → Mu → Res W} {w : W} {Q : VK} {v : V} (h : tE T xt W' ev σ H Q) (he : ∀ ws m, ev ws m = .ok w m) (hv : ∀ F ρ, RW T F ρ v w) : Q v H := by
  obtain ⟨F, ρ, m, ws, R, S, A⟩ := h
  rw [he] at A
  exact fin_old A R (hv _ _)
theorem tE_var {i : Nat} {C : Calls} {Q : VK} (h : tE T xt W' (fun ws m => evE C ws m (.var i)) σ H Q) : tVar i σ H Q := by
  obtain ⟨F, ρ, m, ws, R, S, A⟩ := h
  simp only [evE] at A
  split at A
  · rename_i w e
    obtain ⟨v, e1, hv⟩ := S.2 i w e
    exact ⟨v, e1, fin_old A R hv⟩
  · exact A.elim
/-- one of two -/
theorem tE_un {ea ev : Sl → Mu → Res W} {f : Mu → W → Res W} {Q : VK} {r : V → Hp → VK → Prop} (h : tE T xt W' (fun ws m => (ea ws m).bind fun x m => f m x) σ H Q)
    (hr : ∀ x H Q, r1 T xt f x H Q → r x H Q) : tUn r (tE T xt W' ea) σ H Q :=
  tE_bind (f := fun ws x m => f m x) h fun F ρ m ws v w H1 R S hv a => hr _ _ _ ⟨F, ρ, m, w, R, hv, a.imp (fun _ _ _ _ _ _ _ _ z => z) fun _ _ _ _ => trivial⟩
theorem tE_fz {ea : Sl → Mu → Res W} {Q : VK} (h : tE T xt W' (fun ws m => (ea ws m).bind fun w m => (fzR m w).bind fun x m => .ok (.d x) m) σ H Q) : tE T xt W' ea σ H Q := by
  refine tE_bind (f := fun ws w m => (fzR m w).bind fun x m => .ok (.d x) m) h fun F ρ m ws v w H1 R S hv a => ?_
  cases e : fzR m w with
  | ok x m' =>
    rw [e] at a
    obtain ⟨F', l, R', hx⟩ := R.freeze hv e
    exact a F' ρ H1 R' l .rfl' v hx
  | exc x m' =>
    rcases fzR_cases (m := m) (w := w) with q | ⟨_, _, q⟩ | ⟨_, _, _, _, _, _, q⟩ | ⟨_, _, _, _, _, _, _, q⟩ <;> (rw [q] at e; cases e)
  | stuck => rw [e] at a; exact a.elim
/-- a truth in the middle -/
theorem tE_bl {ea : Sl → Mu → Res W} {f g : Sl → Mu → Res W} {Q : VK} {R : V → Hp → Prop}
    (h : tE T xt W' (fun ws m => (ea ws m).bind fun x m => match x with | .d (.bl true) => f ws m | .d (.bl false) => g ws m | _ => .stuck) σ H Q)
    (h1 : ∀ H1, tE T xt W' f σ H1 Q → R (.bl true) H1) (h2 : ∀ H1, tE T xt W' g σ H1 Q → R (.bl false) H1) : tE T xt W' ea σ H R := by
  refine tE_bind (f := fun ws x m => match x with | .d (.bl true) => f ws m | .d (.bl false) => g ws m | _ => .stuck) h fun F ρ m ws v w H1 R1 S hv a => ?_
  split at a
  · cases hv; exact h1 H1 ⟨F, ρ, m, ws, R1, S, a⟩
  · cases hv; exact h2 H1 ⟨F, ρ, m, ws, R1, S, a⟩
  · exact a.elim
theorem tE_ok {w : W} {Q : VK} {v : V} (h : tE T xt W' (fun _ m => .ok w m) σ H Q) (hv : ∀ F ρ, RW T F ρ v w) : Q v H := tE_now h (fun _ _ => rfl) hv
section
variable {C : Calls} {a b c : E} {Q : VK}
theorem s_and (h : tE T xt W' (fun ws m => evE C ws m (.and2 a b)) σ H Q) : tAndV (tE T xt W' fun ws m => evE C ws m a) (tE T xt W' fun ws m => evE C ws m b) σ H Q := by
  simp only [evE] at h
  exact tE_bl (f := fun ws m => evE C ws m b) (g := fun _ m => .ok (.d (.bl false)) m) h (fun H1 h1 => ⟨true, rfl, h1⟩) fun H1 h2 => ⟨false, rfl, tE_ok h2 fun _ _ => .bl false⟩
theorem s_or (h : tE T xt W' (fun ws m => evE C ws m (.or2 a b)) σ H Q) : tOrV (tE T xt W' fun ws m => evE C ws m a) (tE T xt W' fun ws m => evE C ws m b) σ H Q := by
  simp only [evE] at h
  obtain ⟨F, ρ, m, ws, R, S, A⟩ := h
  refine tE_bind (f := fun ws x m => match x with | .d (.bl false) => evE C ws m b | .d (.bl true) => .ok (.d (.bl true)) m | _ => .stuck) ⟨F, ρ, m, ws, R, S, A⟩ fun F ρ m ws v w H1 R1 S hv a => ?_
  split at a
  · cases hv; exact ⟨false, rfl, F, ρ, m, ws, R1, S, a⟩
  · cases hv; exact ⟨true, rfl, fin_old a R1 (.bl true)⟩
  · exact a.elim
theorem s_not (h : tE T xt W' (fun ws m => evE C ws m (.not a)) σ H Q) : tNotV (tE T xt W' fun ws m => evE C ws m a) σ H Q := by
  simp only [evE] at h
  refine tE_bind (f := fun ws x m => match x with | .d (.bl b) => .ok (.d (.bl (!b))) m | _ => .stuck) h fun F ρ m ws v w H1 R1 S hv a => ?_
  split at a
  · cases hv; exact ⟨_, rfl, fin_old a R1 (.bl _)⟩
  · exact a.elim
theorem s_ife (h : tE T xt W' (fun ws m => evE C ws m (.ife c a b)) σ H Q) : tIf (tTest (tE T xt W' fun ws m => evE C ws m c)) (tE T xt W' fun ws m => evE C ws m a) (tE T xt W' fun ws m => evE C ws m b) σ H Q := by
  simp only [evE] at h
  exact tE_bl (f := fun ws m => evE C ws m a) (g := fun ws m => evE C ws m b) h (fun H1 h1 => ⟨true, rfl, h1⟩) fun H1 h2 => ⟨false, rfl, h2⟩
theorem w_and {Q : Bool → Hp → Prop} (h : tTest (tE T xt W' (fun ws m => evE C ws m (.and2 a b))) σ H Q) : tAnd (tTest (tE T xt W' fun ws m => evE C ws m a)) (tTest (tE T xt W' fun ws m => evE C ws m b)) σ H Q := by
  have h' : tE T xt W' (fun ws m => evE C ws m (.and2 a b)) σ H (fun x H' => ∃ k, x = .bl k ∧ Q k H') := h
  simp only [evE] at h'
  refine tE_bl (f := fun ws m => evE C ws m b) (g := fun _ m => .ok (.d (.bl false)) m) h' (fun H1 h1 => ⟨true, rfl, h1⟩) fun H1 h2 => ⟨false, rfl, ?_⟩
  obtain ⟨k, e, q⟩ := tE_ok (v := .bl false) h2 fun _ _ => .bl false
  cases e
  exact q
theorem w_or {Q : Bool → Hp → Prop} (h : tTest (tE T xt W' (fun ws m => evE C ws m (.or2 a b))) σ H Q) : tOr (tTest (tE T xt W' fun ws m => evE C ws m a)) (tTest (tE T xt W' fun ws m => evE C ws m b)) σ H Q := by
  have h' : tE T xt W' (fun ws m => evE C ws m (.or2 a b)) σ H (fun x H' => ∃ k, x = .bl k ∧ Q k H') := h
  simp only [evE] at h'
  refine tE_bind (f := fun ws x m => match x with | .d (.bl false) => evE C ws m b | .d (.bl true) => .ok (.d (.bl true)) m | _ => .stuck) h' fun F ρ m ws v w H1 R1 S hv a => ?_
  split at a
  · cases hv; exact ⟨false, rfl, F, ρ, m, ws, R1, S, a⟩
  · cases hv
    obtain ⟨k, e, q⟩ := fin_old a R1 (.bl true)
    cases e
    exact ⟨true, rfl, q⟩
  · exact a.elim
theorem w_not {Q : Bool → Hp → Prop} (h : tTest (tE T xt W' (fun ws m => evE C ws m (.not a))) σ H Q) : tNot (tTest (tE T xt W' fun ws m => evE C ws m a)) σ H Q := by
  have h' : tE T xt W' (fun ws m => evE C ws m (.not a)) σ H (fun x H' => ∃ k, x = .bl k ∧ Q k H') := h
  obtain h2 := s_not h'
  refine (show tE T xt W' (fun ws m => evE C ws m a) σ H _ from h2) |> fun z => ?_
  obtain ⟨F, ρ, m, ws, R, S, A⟩ := z
  refine ⟨F, ρ, m, ws, R, S, A.imp (fun _ _ _ _ _ _ _ _ k v hv => ?_) fun _ _ _ z => z⟩
  obtain ⟨c, e, k2, e2, q⟩ := k v hv
  cases e2
  exact ⟨c, e, q⟩
/-! ### operations -/
variable {X : Cx}
theorem op_bin (hK : X.K = T.K) (o : Bo) : OpR X (binaryOp (match o with | .add => .Add | .sub => .Sub | .mul => .Mult | .fdiv => .FloorDiv | .mod => .Mod)) (r2 T xt fun m => binR m o) := by
  cases o with
  | add => exact op_add' hK
  | sub => exact op_sub'
  | mul => exact op_mul' hK
  | fdiv => exact op_fdiv'
  | mod => exact op_mod'
theorem s_bin {o : Bo} (h : tE T xt W' (fun ws m => evE C ws m (.bin o a b)) σ H Q) : tOp (r2 T xt fun m => binR m o) (tE T xt W' fun ws m => evE C ws m a) (tE T xt W' fun ws m => evE C ws m b) σ H Q := by
  simp only [evE] at h
  exact tOp_of h
theorem op_mulM : OpR X (binaryOp .Mult) (r2 T xt mulMR) := by
  rintro pins s σ H x y v u Q I rx ry ⟨F, ρ, m, w, u', R, hx, hy, A⟩
  unfold mulMR at A
  split at A
  · obtain ⟨g, A⟩ := guard_ok A
    obtain ⟨g1, g3⟩ := dec_and g
    obtain ⟨g1, g2⟩ := dec_and g1
    obtain ⟨a, vs, rfl, ha, h1⟩ := RD.seqL hx
    rw [RD.intV hy] at ry
    obtain ⟨t, rfl⟩ := ry
    cases rx
    exact rep_lst I (R.sub.rd ha) (of_decide_eq_true g1) (of_decide_eq_true g2) (by rw [h1.length]; exact of_decide_eq_true g3) fun p n => fin_obj A R ⟨_, rfl, h1.rep _⟩ n
  · exact A.elim
theorem s_mulM (h : tE T xt W' (fun ws m => evE C ws m (.mulM a b)) σ H Q) : tOp (r2 T xt mulMR) (tE T xt W' fun ws m => evE C ws m a) (tE T xt W' fun ws m => evE C ws m b) σ H Q := by
  simp only [evE] at h
  exact tOp_of h
theorem s_cmp {o : Co} (h : tE T xt W' (fun ws m => evE C ws m (.cmp o a b)) σ H Q) : tOp (r2B T xt fun m => cmpR m o) (tE T xt W' fun ws m => evE C ws m a) (tE T xt W' fun ws m => evE C ws m b) σ H Q := by
  simp only [evE] at h
  exact tOp_of (f := fun m x y => blR (cmpR m o x y)) h
/-- a op1 b op2 c -/
theorem s_ch {o p : Co} (h : tE T xt W' (fun ws m => evE C ws m (.ch o p a b c)) σ H Q) :
    tChain (r2B T xt fun m => cmpR m o) (r2B T xt fun m => cmpR m p) (tE T xt W' fun ws m => evE C ws m a) (tE T xt W' fun ws m => evE C ws m b) (tE T xt W' fun ws m => evE C ws m c) σ H Q := by
  simp only [evE] at h
  refine tE_bind (f := fun ws x m => (evE C ws m b).bind fun y m => (cmpR m o x y).bind fun k m => if k then (evE C ws m c).bind fun z m => blR (cmpR m p y z) else .ok (.d (.bl false)) m) h fun F ρ m ws v w H1 R S hv A => ?_
  refine ⟨F, ρ, m, ws, R, S, A.bind.imp (fun F1 ρ1 H2 m1 u r1 l1 g1 k y hy => ?_) fun _ _ _ z => z⟩
  refine ⟨F1, ρ1, m1, w, u, r1, hv.mono l1 g1, hy, ?_⟩
  -- the truth of the first
  have k2 := k.bind
  show After T xt F1 ρ1 (blR (cmpR m1 o w u)) _ _
  cases e : cmpR m1 o w u with
  | ok t m2 =>
    rw [e] at k2
    intro F2 ρ2 H3 r2 l2 g2 z hz
    cases hz
    refine ⟨t, rfl, ?_⟩
    have k3 := k2 F2 ρ2 H3 r2 l2 g2
    cases t with
    | false => exact fin_old k3 r2 (.bl false)
    | true =>
      refine ⟨F2, ρ2, m2, ws, r2, S.mono (l1.trans l2) (g1.trans g2), (show After T xt F2 ρ2 ((evE C ws m2 c).bind fun z m => blR (cmpR m p u z)) _ _ from k3).bind.imp (fun F3 ρ3 H4 m3 q r3 l3 g3 k4 y2 hy2 => ?_) fun _ _ _ z => z⟩
      exact ⟨F3, ρ3, m3, u, q, r3, (hy.mono l2 g2).mono l3 g3, hy2, k4.imp (fun _ _ _ _ _ _ _ _ z => z) fun _ _ _ _ => trivial⟩
  | exc x m2 => intro F2 ρ2 H3 c dx r2 l2 g2 xx; trivial
  | stuck => rw [e] at k2; exact k2.elim
/-! ### lists of expressions -/
theorem a_nil {Q : List V → Hp → Prop} (h : tA T xt W' (fun ws m => evEs C ws m .nil) σ H Q) : tNil σ H Q := by
  obtain ⟨F, ρ, m, ws, R, S, A⟩ := h
  simp only [evEs] at A
  exact A.ok R _ .nil
theorem a_cons {es : Es} {Q : List V → Hp → Prop} (h : tA T xt W' (fun ws m => evEs C ws m (.cons a es)) σ H Q) : tCons (tE T xt W' fun ws m => evE C ws m a) (tA T xt W' fun ws m => evEs C ws m es) σ H Q := by
  obtain ⟨F, ρ, m, ws, R, S, A⟩ := h
  simp only [evEs] at A
  refine ⟨F, ρ, m, ws, R, S, A.bind.imp (fun F1 ρ1 H1 m1 w r1 l1 g1 k v hv => ?_) fun _ _ _ z => z⟩
  refine ⟨F1, ρ1, m1, ws, r1, S.mono l1 g1, k.bind.imp (fun F2 ρ2 H2 m2 us r2 l2 g2 k2 vs hvs => ?_) fun _ _ _ z => z⟩
  exact k2.ok r2 _ (.cons (hv.mono l2 g2) hvs)
theorem allD_rds : ∀ {ws : List W} {vs : List V} {xs : List D}, RWs T F ρ vs ws → allD ws = some xs → RDs T F vs xs
  | [], _, _, .nil, e => by cases e; exact .nil
  | .d x :: r, _, _, .cons h t, e => by
    unfold allD at e
    split at e
    · rename_i ys q
      cases e
      exact .cons h (allD_rds t q)
    · cases e
  | .h _ :: r, _, _, .cons h t, e => by cases e
  | .hi _ _ :: r, _, _, .cons h t, e => by cases e
  | .kt _ :: r, _, _, .cons h t, e => by cases e
  | .clo _ _ :: r, _, _, .cons h t, e => by cases e
theorem tA_bind {ev : Sl → Mu → Res (List W)} {f : Sl → List W → Mu → Res W} {Q : VK} {R : List V → Hp → Prop} (h : tE T xt W' (fun ws m => (ev ws m).bind (f ws)) σ H Q)
    (g : ∀ F ρ m ws vs us H1, Rel T F ρ H1 m → RSl T F ρ σ ws → RWs T F ρ vs us → After T xt F ρ (f ws us m) (fun F' ρ' H' _ w => ∀ v, RW T F' ρ' v w → Q v H') (fun c dx H' => W' c dx σ H') → R vs H1) : tA T xt W' ev σ H R := by
  obtain ⟨F, ρ, m, ws, r, s, a⟩ := h
  refine ⟨F, ρ, m, ws, r, s, a.bind.imp (fun F1 ρ1 H1 m1 w r1 l1 g1 k v hv => ?_) fun _ _ _ z => z⟩
  exact g F1 ρ1 m1 ws v w H1 r1 (s.mono l1 g1) hv k
theorem s_tup {es : Es} (h : tE T xt W' (fun ws m => evE C ws m (.tup es)) σ H Q) : tTup (tA T xt W' fun ws m => evEs C ws m es) σ H Q := by
  simp only [evE] at h
  refine tA_bind (f := fun _ us m => match allD us with | some xs => guardR (decide (xs.length ≤ line)) (.ok (.d (.tup xs)) m) | none => .stuck) h fun F ρ m ws vs us H1 R S hv A => ?_
  split at A
  · rename_i xs e
    obtain ⟨g, A⟩ := guard_ok A
    have r := allD_rds hv e
    exact ⟨by rw [r.length]; exact of_decide_eq_true g, fun p n => fin_tup A R r n⟩
  · exact A.elim
theorem s_lst {es : Es} (h : tE T xt W' (fun ws m => evE C ws m (.lst es)) σ H Q) : tLst (tA T xt W' fun ws m => evEs C ws m es) σ H Q := by
  simp only [evE] at h
  refine tA_bind (f := fun _ us m => match allD us with | some xs => guardR (decide (xs.length ≤ line)) (.ok (.d (.lst xs)) m) | none => .stuck) h fun F ρ m ws vs us H1 R S hv A => ?_
  split at A
  · rename_i xs e
    obtain ⟨g, A⟩ := guard_ok A
    have r := allD_rds hv e
    exact ⟨by rw [r.length]; exact of_decide_eq_true g, fun p n => fin_lst A R r n⟩
  · exact A.elim
theorem s_lstM {es : Es} (h : tE T xt W' (fun ws m => evE C ws m (.lstM es)) σ H Q) : tLst (tA T xt W' fun ws m => evEs C ws m es) σ H Q := by
  simp only [evE] at h
  refine tA_bind (f := fun _ us m => match allD us with | some xs => guardR (decide (xs.length ≤ line)) (newR m (.o (.lst xs))) | none => .stuck) h fun F ρ m ws vs us H1 R S hv A => ?_
  split at A
  · rename_i xs e
    obtain ⟨g, A⟩ := guard_ok A
    have r := allD_rds hv e
    exact ⟨by rw [r.length]; exact of_decide_eq_true g, fun p n => fin_obj A R ⟨_, rfl, r⟩ n⟩
  · exact A.elim
/-- a call -/
theorem s_call {es : Es} {f : Nat} (h : tE T xt W' (fun ws m => evE C ws m (.call f es)) σ H Q) : tCallS (spR T xt (C f)) (WE W') (tA T xt W' fun ws m => evEs C ws m es) σ H Q := by
  simp only [evE] at h
  exact tA_bind (f := fun _ us m => C f us m) h fun F ρ m ws vs us H1 R S hv A => ⟨F, ρ, m, us, R, hv, A⟩
end
end
end Cn

/-! # dicts, indices, slices, built-ins -/
namespace Cn
open PySem PySem.Spec PyProof.Rows L2

theorem kyV_inj {a b : Ky} : kyV a = kyV b ↔ a = b := by
  cases a <;> cases b <;> simp [kyV, strV_inj]
theorem map_inl_inj {a b : List Int} : (a.map (Sum.inl : Int → L2.Key)) = b.map Sum.inl ↔ a = b := by
  constructor
  · intro h
    induction a generalizing b with
    | nil => cases b with
      | nil => rfl
      | cons _ _ => cases h
    | cons x r ih => cases b with
      | nil => cases h
      | cons y s =>
        simp only [List.map_cons, List.cons.injEq] at h
        obtain ⟨h1, h2⟩ := h
        cases h1
        rw [ih h2]
  · intro h; rw [h]
theorem ktV_inj {a b : List Int} : ktV a = ktV b ↔ a = b := map_inl_inj
section
variable {T : Tx} {F H : Hp} {ρ : Ro} {m : Mu}
theorem valV_zip {κ κ' : Type} [DecidableEq κ] [DecidableEq κ'] {f : κ → κ'} (hf : ∀ {a b : κ}, f a = f b ↔ a = b) (k : κ) : ∀ {ks : List κ} {vs : List V} {xs : List D}, RDs T F vs xs → ks.length = vs.length →
    (getA k ks xs = none → valV ((ks.map f).zip vs) (f k) = none) ∧ ∀ x, getA k ks xs = some x → ∃ v, valV ((ks.map f).zip vs) (f k) = some v ∧ RD T F v x
  | [], [], _, .nil, _ => ⟨fun _ => rfl, fun x e => by cases e⟩
  | a :: r, v :: vs, _, .cons (x := x) (xs := xs) h t, hl => by
    have ih := valV_zip hf k t (ks := r) (by simpa using hl)
    by_cases e : a = k
    · subst e
      refine ⟨fun q => ?_, fun y q => ?_⟩
      · unfold getA at q; rw [if_pos rfl] at q; cases q
      · unfold getA at q; rw [if_pos rfl] at q; cases q
        exact ⟨v, by simp [valV, List.find?_cons], h⟩
    · have e' : ¬ f a = f k := fun z => e (hf.mp z)
      have h1 : getA k (a :: r) (x :: xs) = getA k r xs := by
        show (if a = k then some x else getA k r xs) = _
        rw [if_neg e]
      have h2 : valV (((a :: r).map f).zip (v :: vs)) (f k) = valV ((r.map f).zip vs) (f k) := by
        simp [valV, List.find?_cons, e']
      rw [h1, h2]
      exact ih
  | [], v :: vs, _, .cons _ _, hl => by simp at hl
  | a :: r, [], _, .nil, hl => by simp at hl
/-- a dict that is to be read: keys of numbers and texts; of tuples -/
theorem Rel.dicK (R : Rel T F ρ H m) {v : V} {w : W} {ks : List Ky} {xs : List D} (hw : RW T F ρ v w) (e : dicOf m w = some (.dK ks xs)) : ∃ a vs, v = .ref a ∧ Rd H a (.dK ((ks.map kyV).zip vs)) ∧ ks.length = vs.length ∧ RDs T F vs xs := by
  unfold dicOf at e
  split at e
  · cases e
    cases hw with
    | dK h n r => exact ⟨_, _, rfl, .inl (R.sub _ _ h), n, r⟩
  · cases e
  · cases e
  · unfold foAt at e
    split at e
    · rename_i n hx1 hx2 hx3
      split at e
      · rename_i o ho
        cases e
        obtain ⟨g, hg, hr⟩ := rootAt_some ho
        obtain ⟨p, e1, rfl⟩ := hw
        obtain ⟨ow, h⟩ := R.at e1 hg
        obtain ⟨u, h1, h2⟩ := h.root
        rw [hr] at h2
        obtain ⟨vs, rfl, n, r⟩ := h2
        exact ⟨_, vs, rfl, .inl h1, n, r⟩
      · cases e
    · obtain ⟨a, e1, rfl⟩ := hw
      obtain ⟨g, hg, hf⟩ := inAt_some e
      obtain ⟨p, u, _, _, h1, ⟨vs, rfl, n, r⟩, _⟩ := R.roI e1 hg hf
      exact ⟨_, vs, rfl, .inl h1, n, r⟩
    · cases e
theorem Rel.dicT (R : Rel T F ρ H m) {v : V} {w : W} {ks : List (List Int)} {xs : List D} (hw : RW T F ρ v w) (e : dicOf m w = some (.dT ks xs)) : ∃ a vs, v = .ref a ∧ Rd H a (.dT ((ks.map ktV).zip vs)) ∧ ks.length = vs.length ∧ RDs T F vs xs := by
  unfold dicOf at e
  split at e
  · cases e
  · cases e
    cases hw with
    | dT h n r => exact ⟨_, _, rfl, .inl (R.sub _ _ h), n, r⟩
  · cases e
  · unfold foAt at e
    split at e
    · rename_i n hx1 hx2 hx3
      split at e
      · rename_i o ho
        cases e
        obtain ⟨g, hg, hr⟩ := rootAt_some ho
        obtain ⟨p, e1, rfl⟩ := hw
        obtain ⟨ow, h⟩ := R.at e1 hg
        obtain ⟨u, h1, h2⟩ := h.root
        rw [hr] at h2
        obtain ⟨vs, rfl, n, r⟩ := h2
        exact ⟨_, vs, rfl, .inl h1, n, r⟩
      · cases e
    · obtain ⟨a, e1, rfl⟩ := hw
      obtain ⟨g, hg, hf⟩ := inAt_some e
      obtain ⟨p, u, _, _, h1, ⟨vs, rfl, n, r⟩, _⟩ := R.roI e1 hg hf
      exact ⟨_, vs, rfl, .inl h1, n, r⟩
    · cases e
theorem dicOf_dic {w : W} : ∀ {o : Fo}, dicOf m w = some o → (∃ ks xs, o = .dK ks xs) ∨ (∃ ks xs, o = .dT ks xs) ∨ ∃ xs, o = .lst xs := by
  intro o _
  cases o with
  | lst xs => exact .inr (.inr ⟨_, rfl⟩)
  | dK ks xs => exact .inl ⟨_, _, rfl⟩
  | dT ks xs => exact .inr (.inl ⟨_, _, rfl⟩)
theorem key_at {v : V} {x : D} {k : Ky} (h : RD T F v x) (e : toKy x = some k) : v = kV (kyV k) := by
  cases h <;> cases e <;> rfl
theorem ints_at : ∀ {vs : List V} {xs : List D} {is : List Int}, RDs T F vs xs → intDs xs = some is → vs = (ktV is).map kV
  | _, _, _, .nil, e => by cases e; rfl
  | _, _, _, .cons (x := x) (xs := xs) h t, e => by
    unfold intDs at e
    split at e
    · rename_i i is' e1 e2
      cases e
      have := ints_at t e2
      cases h <;> cases e1
      rw [this]
      rfl
    · cases e
theorem ktup_at {v : V} {x : D} {k : List Int} (h : RD T F v x) (e : toKt x = some k) : ∃ b, v = .ref b ∧ F b = some (.tup ((ktV k).map kV)) := by
  cases h with
  | tup h r =>
    have := ints_at r e
    subst this
    exact ⟨_, rfl, h⟩
  | _ => cases e
theorem getA_contains {κ : Type} [DecidableEq κ] [BEq κ] [LawfulBEq κ] (k : κ) : ∀ {ks : List κ} {xs : List D}, ks.length = xs.length → (getA k ks xs).isSome = ks.contains k
  | [], [], _ => rfl
  | [], _ :: _, h => by simp at h
  | _ :: _, [], h => by simp at h
  | a :: r, x :: s, h => by
    have ih := getA_contains k (ks := r) (xs := s) (by simpa using h)
    unfold getA
    by_cases e : a = k
    · subst e; simp
    · rw [if_neg e, ih]
      have : ¬ k = a := fun z => e z.symm
      simp [this]
/-- what a dict holds at a key -/
theorem Rel.dgK (R : Rel T F ρ H m) {v y : V} {w : W} {ks : List Ky} {xs : List D} {x : D} {k : Ky} (hw : RW T F ρ v w) (e : dicOf m w = some (.dK ks xs)) (hy : RD T F y x) (ek : toKy x = some k) :
    ∃ a o, v = .ref a ∧ DGet H a y o ∧ o.isSome = ks.contains k ∧ (getA k ks xs = none → o = none) ∧ ∀ z, getA k ks xs = some z → ∃ u, o = some u ∧ RD T F u z := by
  obtain ⟨a, vs, rfl, hr, n, r⟩ := R.dicK hw e
  have q := valV_zip (f := kyV) kyV_inj k r n
  refine ⟨a, valV ((ks.map kyV).zip vs) (kyV k), rfl, .inl ⟨_, _, hr, key_at hy ek, rfl⟩, ?_, q.1, q.2⟩
  rw [← getA_contains k (n.trans r.length)]
  cases z : getA k ks xs with
  | none => rw [q.1 z]; rfl
  | some t => obtain ⟨u, e1, _⟩ := q.2 t z; rw [e1]; rfl
theorem Rel.dgT (R : Rel T F ρ H m) {v y : V} {w : W} {ks : List (List Int)} {xs : List D} {x : D} {k : List Int} (hw : RW T F ρ v w) (e : dicOf m w = some (.dT ks xs)) (hy : RD T F y x) (ek : toKt x = some k) :
    ∃ a o, v = .ref a ∧ DGet H a y o ∧ o.isSome = ks.contains k ∧ (getA k ks xs = none → o = none) ∧ ∀ z, getA k ks xs = some z → ∃ u, o = some u ∧ RD T F u z := by
  obtain ⟨a, vs, rfl, hr, n, r⟩ := R.dicT hw e
  obtain ⟨b, rfl, hb⟩ := ktup_at hy ek
  have q := valV_zip (f := ktV) ktV_inj k r n
  refine ⟨a, valV ((ks.map ktV).zip vs) (ktV k), rfl, .inr ⟨_, _, b, hr, rfl, R.sub _ _ hb, rfl⟩, ?_, q.1, q.2⟩
  rw [← getA_contains k (n.trans r.length)]
  cases z : getA k ks xs with
  | none => rw [q.1 z]; rfl
  | some t => obtain ⟨u, e1, _⟩ := q.2 t z; rw [e1]; rfl
end
section
variable {T : Tx} {xt : Xt} {X : Cx}
theorem op_in' (hK : X.K = T.K) (hu : X.A.units + 66 < cLine) : OpR X (compareOp .In) (r2B T xt inR) := by
  rintro pins s σ H x y v u Q I rx ry ⟨F, ρ, m, w, u', R, hx, hy, A⟩
  replace A : After T xt F ρ (blR (inR m w u')) (KV1 T Q) (fun _ _ _ => True) := A
  unfold inR at A
  split at A
  · rename_i ks xs e
    split at A
    · split at A
      · rename_i k ek
        obtain ⟨a, o, rfl, g, h1, _⟩ := R.dgK hy e hx ek
        cases ry
        refine d_in (by omega) I g rx fun s' I' => ⟨.bl _, H, I', rfl, ?_⟩
        rw [h1]
        exact ok_bl A R
      · exact A.elim
    · exact A.elim
  · rename_i ks xs e
    split at A
    · split at A
      · rename_i k ek
        obtain ⟨a, o, rfl, g, h1, _⟩ := R.dgT hy e hx ek
        cases ry
        refine d_in (by omega) I g rx fun s' I' => ⟨.bl _, H, I', rfl, ?_⟩
        rw [h1]
        exact ok_bl A R
      · exact A.elim
    · exact A.elim
  · exact op_inSeq hK hu pins s σ H x y v u Q I rx ry ⟨F, ρ, m, w, u', R, hx, hy, A⟩
theorem op_nin' (hK : X.K = T.K) (hu : X.A.units + 66 < cLine) : OpR X (compareOp .NotIn) (r2B T xt fun m a b => notR (inR m a b)) := by
  rintro pins s σ H x y v u Q I rx ry ⟨F, ρ, m, w, u', R, hx, hy, A⟩
  replace A : After T xt F ρ (blR (notR (inR m w u'))) (KV1 T Q) (fun _ _ _ => True) := A
  unfold inR at A
  split at A
  · rename_i ks xs e
    split at A
    · split at A
      · rename_i k ek
        obtain ⟨a, o, rfl, g, h1, _⟩ := R.dgK hy e hx ek
        cases ry
        refine d_notIn (by omega) I g rx fun s' I' => ⟨.bl _, H, I', rfl, ?_⟩
        rw [h1]
        exact ok_bl A R
      · exact A.elim
    · exact A.elim
  · rename_i ks xs e
    split at A
    · split at A
      · rename_i k ek
        obtain ⟨a, o, rfl, g, h1, _⟩ := R.dgT hy e hx ek
        cases ry
        refine d_notIn (by omega) I g rx fun s' I' => ⟨.bl _, H, I', rfl, ?_⟩
        rw [h1]
        exact ok_bl A R
      · exact A.elim
    · exact A.elim
  · exact op_ninSeq hK hu pins s σ H x y v u Q I rx ry ⟨F, ρ, m, w, u', R, hx, hy, A⟩
def coP : Co → CmpOp
  | .eq => .Eq
  | .ne => .NotEq
  | .lt => .Lt
  | .le => .LtE
  | .gt => .Gt
  | .ge => .GtE
  | .isN => .Is
  | .notN => .IsNot
  | .in_ => .In
  | .nin => .NotIn
theorem op_cmp (hK : X.K = T.K) (hu : X.A.units + 66 < cLine) (o : Co) : OpR X (compareOp (coP o)) (r2B T xt fun m => cmpR m o) := by
  cases o with
  | eq => exact op_eq' hK hu
  | ne => exact op_ne' hK hu
  | lt => exact ordR' op_lt
  | le => exact ordR' op_le
  | gt => exact ordR' op_gt
  | ge => exact ordR' op_ge
  | isN => exact op_is'
  | notN => exact op_isnot'
  | in_ => exact op_in' hK hu
  | nin => exact op_nin' hK hu
end
end Cn

/-! # indices, slices, built-ins -/
namespace Cn
open PySem PySem.Spec PyProof.Rows L2
theorem ixZ_ixN (n : Nat) (i : Int) : ixZ n i = ixN n i := rfl
theorem atZ_atI {α : Type} (xs : List α) (i : Int) : atZ xs i = atI xs i := rfl
theorem clipZ_sIx (n d : Nat) (o : Option Int) : clipZ n d o = HT.sIx n d o := by
  cases o with
  | none => rfl
  | some i => rfl
theorem cutZ_cutV (xs : List V) (lo hi : Option Int) : cutZ xs lo hi = cutV xs lo hi := by
  unfold cutZ cutV
  rw [clipZ_sIx, clipZ_sIx]
section
variable {T : Tx} {F H : Hp} {ρ : Ro} {m : Mu}
theorem RDs.atI {vs : List V} {xs : List D} {i : Int} {x : D} (r : RDs T F vs xs) (e : atZ xs i = some x) : ∃ v, L2.atI vs i = some v ∧ RD T F v x := by
  unfold atZ at e
  unfold L2.atI
  rw [← r.length, ixZ_ixN] at e
  cases q : ixN vs.length i with
  | none => rw [q] at e; cases e
  | some j =>
    rw [q] at e
    exact RDs.get r e
theorem RKs.atI {K : PySem.W.Frag} {vs : List V} {xs : List D} {i : Int} {x : D} (r : RKs K vs xs) (e : atZ xs i = some x) : ∃ v, L2.atI vs i = some v ∧ RK K v x := by
  unfold atZ at e
  unfold L2.atI
  rw [← r.length, ixZ_ixN] at e
  cases q : ixN vs.length i with
  | none => rw [q] at e; cases e
  | some j =>
    rw [q] at e
    exact RKs.get r e
theorem RUs.atI {as : List Addr} {vs : List V} {us : List U} {i : Int} {u : U} (r : RUs T F as vs us) (e : atZ us i = some u) : ∃ v, L2.atI vs i = some v ∧ RU T F as v u := by
  unfold atZ at e
  unfold L2.atI
  rw [← PairedLen r, ixZ_ixN] at e
  cases q : ixN vs.length i with
  | none => rw [q] at e; cases e
  | some j =>
    rw [q] at e
    have e' : us[j]? = some u := e
    clear q e
    induction r generalizing j with
    | nil => simp at e'
    | cons h t ih =>
      cases j with
      | zero => simp at e'; subst e'; exact ⟨_, rfl, h⟩
      | succ j => exact ih j (by simpa using e')
theorem RDs.cut {vs : List V} {xs : List D} (r : RDs T F vs xs) (lo hi : Option Int) : RDs T F (cutV vs lo hi) (cutZ xs lo hi) := by
  unfold cutZ cutV
  rw [clipZ_sIx, clipZ_sIx, r.length]
  exact (r.drop _).take _
theorem toK_rw {K : PySem.W.Frag} (hK : K = T.K) {v : V} {x : D} (h : RK K v x) : RW T F ρ v (toK x) := by
  subst hK
  cases h with
  | non => exact RD.non
  | bl b => exact RD.bl b
  | int i => exact RD.int i
  | str cs => exact RD.str cs
  | tup a b => exact RK.tup a b
theorem toU_rw {n : Nat} {p : Addr × List Addr} {v : V} {u : U} (e : ρ[n]? = some p) (h : RU T F p.2 v u) : RW T F ρ v (toU n u) := by
  cases u with
  | d x => exact h
  | i f =>
    obtain ⟨a, e1, rfl⟩ := h
    exact ⟨a, by unfold Cn.roI; rw [e]; exact e1, rfl⟩
/-- an object's root list -/
theorem Rel.rootLst (R : Rel T F ρ H m) {n : Nat} {p : Addr × List Addr} {us : List U} (e : ρ[n]? = some p) (hr : rootAt m n = some (.lst us)) : ∃ vs, H p.1 = some (.lst vs) ∧ RUs T F p.2 vs us := by
  obtain ⟨g, hg, hq⟩ := rootAt_some hr
  obtain ⟨ow, h⟩ := R.at e hg
  obtain ⟨o, h1, h2⟩ := h.root
  rw [hq] at h2
  obtain ⟨vs, rfl, h3⟩ := h2
  exact ⟨vs, h1, h3⟩
theorem Rel.rootFo (R : Rel T F ρ H m) {n : Nat} {p : Addr × List Addr} {f : Fo} (e : ρ[n]? = some p) (hr : rootAt m n = some (.o f)) : ∃ o, H p.1 = some o ∧ RF T F f o := by
  obtain ⟨g, hg, hq⟩ := rootAt_some hr
  obtain ⟨ow, h⟩ := R.at e hg
  obtain ⟨o, h1, h2⟩ := h.root
  rw [hq] at h2
  exact ⟨o, h1, h2⟩
end
section
variable {T : Tx} {xt : Xt} {X : Cx}
theorem RD.strNat {F : Hp} {cs : List Nat} : RD T F (.str (strV cs)) (.str cs) := .str cs
theorem ix_getK (hu : X.A.units + 66 < cLine) {value slice : Expr} {pins : List (Addr × Obj)} {s : Shared} {σ : L2.St} {H : Hp} {x y : V} {v u : Value} {Q : VK} {F : Hp} {ρ : Ro} {m : Mu} {w : W} {k : Ky} {d : D} {e : XK} (I : Inv X pins σ H s) (rx : RelV x v) (ry : RelV y u)
    (R : Rel T F ρ H m) (hx : RW T F ρ x w) (hy : RD T F y d) (ek : toKy d = some k) (A : After T xt F ρ (getK m w k) (KV1 T Q) e)
    (hs : subscripted slice false v u = operate [v, u] (getItem v u)) : wpAny (model X.prog X.w) X.A (subscriptTail value slice v u) (EP X pins σ Q) X.xe s := by
  unfold getK at A
  split at A
  · rename_i ks xs ed
    obtain ⟨a, o, rfl, g, _, _, h3⟩ := R.dgK hx ed hy ek
    split at A
    · rename_i z ez
      obtain ⟨uv, rfl, hz⟩ := h3 z ez
      cases rx
      exact tail_any (dict_typeIs I g) PySem.F.slot_dict_getitem.lookup (d_getItem (by omega) I g ry fun w' s3 I3 rw' => ⟨uv, H, I3, rw', fin_old A R hz⟩) hs
    · exact A.elim
  · exact A.elim
theorem ix_R (hK : X.K = T.K) (hu : X.A.units + 66 < cLine) : IxR X (r2 T xt ixR) := by
  rintro value slice pins s σ H x y v u Q I rx ry ⟨F, ρ, m, w, u', R, hx, hy, A⟩ hs
  unfold ixR at A
  split at A
  · rename_i i
    have ey := RD.intV hy
    subst ey
    split at A
    · -- tuple
      obtain ⟨a, vs, rfl, ha, h1⟩ := RD.seqT hx
      split at A
      · rename_i z ez
        obtain ⟨zv, e1, hz⟩ := h1.atI ez
        exact ix_tup value slice pins s σ H _ _ v u Q I rx ry ⟨a, vs, i, zv, rfl, rfl, .of (R.sub _ _ ha), e1, fin_old A R hz⟩ hs
      · exact A.elim
    · obtain ⟨a, vs, rfl, ha, h1⟩ := RD.seqL hx
      split at A
      · rename_i z ez
        obtain ⟨zv, e1, hz⟩ := h1.atI ez
        exact ix_list value slice pins s σ H _ _ v u Q I rx ry ⟨a, vs, i, zv, rfl, rfl, .inl (R.sub.rd ha), e1, fin_old A R hz⟩ hs
      · exact A.elim
    · rename_i cs
      have ex := RD.strV' hx
      subst ex
      obtain ⟨g, A⟩ := guard_ok A
      split at A
      · rename_i c ec
        refine ix_str value slice pins s σ H _ _ v u Q I rx ry ⟨strV cs, i, c, rfl, rfl, by rw [strV_len]; exact of_decide_eq_true g, ?_, ?_⟩ hs
        · rw [← atZ_atI]; simpa [strV] using ec
        · exact fin_old A R (.str [c])
      · exact A.elim
    · rename_i xs
      cases hx with
      | @tup a vs _ ha h1 =>
        split at A
        · rename_i z ez
          obtain ⟨zv, e1, hz⟩ := h1.atI ez
          exact ix_tup value slice pins s σ H _ _ v u Q I rx ry ⟨a, vs, i, zv, rfl, rfl, by rw [hK]; exact ha H, e1, fin_old A R (toK_rw rfl hz)⟩ hs
        · exact A.elim
    · rename_i n
      split at A
      · rename_i us hr
        obtain ⟨p, e1, rfl⟩ := hx
        obtain ⟨vs, h1, h2⟩ := R.rootLst e1 hr
        split at A
        · rename_i z ez
          obtain ⟨zv, e2, hz⟩ := h2.atI ez
          exact ix_list value slice pins s σ H _ _ v u Q I rx ry ⟨_, vs, i, zv, rfl, rfl, .inl (.inl h1), e2, fin_old A R (toU_rw e1 hz)⟩ hs
        · exact A.elim
      · rename_i xs hr
        obtain ⟨p, e1, rfl⟩ := hx
        obtain ⟨o, h1, vs, rfl, h2⟩ := R.rootFo e1 hr
        split at A
        · rename_i z ez
          obtain ⟨zv, e2, hz⟩ := h2.atI ez
          exact ix_list value slice pins s σ H _ _ v u Q I rx ry ⟨_, vs, i, zv, rfl, rfl, .inl (.inl h1), e2, fin_old A R hz⟩ hs
        · exact A.elim
      · exact ix_getK hu I rx ry R hx hy rfl A hs
    · rename_i n f
      split at A
      · rename_i xs hr
        obtain ⟨a, e1, rfl⟩ := hx
        obtain ⟨g, hg, hf⟩ := inAt_some hr
        obtain ⟨p, uo, _, _, h1, ⟨vs, rfl, h2⟩, _⟩ := R.roI e1 hg hf
        split at A
        · rename_i z ez
          obtain ⟨zv, e2, hz⟩ := h2.atI ez
          exact ix_list value slice pins s σ H _ _ v u Q I rx ry ⟨_, vs, i, zv, rfl, rfl, .inl (.inl h1), e2, fin_old A R hz⟩ hs
        · exact A.elim
      · exact ix_getK hu I rx ry R hx hy rfl A hs
    · exact ix_getK hu I rx ry R hx hy rfl A hs
  · exact ix_getK hu I rx ry R hx hy rfl A hs
  · exact A.elim
/-- a slice -/
def rSl (T : Tx) (xt : Xt) : V → Option Int → Option Int → Hp → VK → Prop := fun x lo hi H Q => ∃ F ρ m w, Rel T F ρ H m ∧ RW T F ρ x w ∧ After T xt F ρ (slR m w lo hi) (KV1 T Q) (fun _ _ _ => True)
theorem sl_R (hK : X.K = T.K) : SlR X (rSl T xt) := by
  rintro pins s σ H x v vl vu lo hi sl Q I rx hs pl pu ⟨F, ρ, m, w, R, hx, A⟩
  unfold slR at A
  split at A
  · rename_i xs e
    split at A
    · cases e
      obtain ⟨a, vs, rfl, ha, h1⟩ := RD.seqT hx
      refine sl_tupA pins s σ H _ v vl vu lo hi sl Q I rx hs pl pu ⟨a, vs, rfl, .of (R.sub _ _ ha), fun hw => ?_, fun hw p n => fin_tup A R (h1.cut lo hi) n⟩
      have e2 : cutZ xs lo hi = xs := by
        unfold cutZ
        rw [clipZ_sIx, clipZ_sIx, ← h1.length, hw.1, hw.2, h1.length]
        simp
      rw [e2] at A
      exact fin_old A R hx
    · exact A.elim
  · rename_i xs e
    rcases R.rdH hx e with h | h
    · obtain ⟨a, vs, rfl, ha, h1⟩ := RD.seqL h
      refine sl_list pins s σ H _ v vl vu lo hi sl Q I rx hs pl pu ⟨a, vs, rfl, .inl ha, fun p n => ?_⟩
      have r : ∃ F', Le F F' ∧ True := ⟨F, Le.rfl', trivial⟩
      -- the items stand over the heap that was tracked
      have hd : RDs T F vs xs := by
        cases w with
        | d y => cases e; obtain ⟨_, _, q, hb, h2⟩ := RD.seqL hx; cases q; rw [I.list_inj (.inl ha) (.inl (R.sub.rd hb))]; exact h2
        | kt y => cases e; cases hx
        | h k =>
          obtain ⟨p', e1, q⟩ := hx
          cases q
          simp only [rd] at e
          split at e
          · rename_i r hr
            split at e
            · rename_i ys hl
              cases e
              obtain ⟨us, g1, g2⟩ := R.lstD e1 hr hl
              rw [I.list_inj (.inl ha) (.inl (.inl g1))]; exact g2
            · cases e
          · cases e
        | hi k f =>
          obtain ⟨a', e1, q⟩ := hx
          cases q
          simp only [rd] at e
          split at e
          · rename_i ys hy
            cases e
            obtain ⟨g, hg, hf⟩ := inAt_some hy
            obtain ⟨p, u, _, _, g1, ⟨us, rfl, g2⟩, _⟩ := R.roI e1 hg hf
            rw [I.list_inj (.inl ha) (.inl (.inl g1))]; exact g2
          · cases e
        | clo _ _ => cases e
      exact fin_lst A R (hd.cut lo hi) n
    · cases h
  · exact A.elim
end
end Cn

/-! # a module's dict of numbers -/
namespace Cn
open PySem PySem.Spec PyProof.Rows L2
def entB (e : DictEntry) (p : Int × Int) : Bool := decide (e.hash = hashInt p.1) && (match e.key, e.val with
  | .int i _, .int j _ => decide (i = p.1) && decide (j = p.2)
  | _, _ => false)
def entsB : List DictEntry → List (Int × Int) → Bool
  | [], ps => ps.isEmpty
  | e :: r, ps => (match ps with | p :: s => entB e p && entsB r s | [] => false)
/-- at a stands a dict of numbers -/
def diB (K : PySem.W.Frag) (a : Addr) (ps : List (Int × Int)) : Bool := !(a == sysModules) && decide (ps.map fun p => (Sum.inl p.1 : L2.Key)).Nodup && (match K.lookup a with
  | some ⟨.type c, none, .dict es _, sl⟩ => decide (c = "dict") && sl.isEmpty && entsB es.toList ps
  | _ => false)
theorem ents_ok {P : Program} {w : World} : ∀ {es : List DictEntry} {ps : List (Int × Int)}, entsB es ps = true → ∃ vs : List (L2.Key × Value), Pairs (mixKind P w) es vs ∧ (∀ e ∈ es, ∃ k, (mixKind P w).is k e.key = true ∧ e.hash = (mixKind P w).hash k) ∧
    vs.map (·.1) = ps.map (fun p => (.inl p.1 : L2.Key)) ∧ ∀ i, (∀ j, ps.lookup i = some j → ∃ t, valueAt vs (.inl i) = some (.int j t)) ∧ (ps.lookup i = none → valueAt vs (.inl i) = none)
  | [], ps, h => by
    unfold entsB at h
    cases ps with
    | nil => exact ⟨[], .nil, (fun e he => by cases he), rfl, fun i => ⟨(fun j z => by cases z), fun _ => rfl⟩⟩
    | cons _ _ => cases h
  | e :: r, ps, h => by
    unfold entsB at h
    cases ps with
    | nil => cases h
    | cons p s =>
      obtain ⟨h1, h2⟩ := dec_and h
      obtain ⟨vs, g1, g2, g3, g4⟩ := ents_ok (P := P) (w := w) h2
      unfold entB at h1
      obtain ⟨h1, h3⟩ := dec_and h1
      obtain ⟨hs, ky, vl⟩ := e
      dsimp only at h1 h3
      split at h3
      · rename_i i t j u _
        obtain ⟨e1, e2⟩ := dec_and h3
        have e1 := of_decide_eq_true e1
        have e2 := of_decide_eq_true e2
        subst e1 e2
        have hh := of_decide_eq_true h1
        obtain ⟨p1, p2⟩ := p
        refine ⟨(.inl p1, .int p2 u) :: vs, .cons (keyIs_int p1 t) rfl g1, fun e he => ?_, by simp [g3], fun i => ?_⟩
        · rcases List.mem_cons.mp he with z | z
          · subst z
            exact ⟨.inl p1, keyIs_int p1 t, hh⟩
          · exact g2 e z
        · by_cases hi : p1 = i
          · subst hi
            refine ⟨fun j z => ?_, fun z => ?_⟩
            · have : j = p2 := by simpa [List.lookup] using z.symm
              subst this
              exact ⟨u, by simp [valueAt, List.find?_cons]⟩
            · simp [List.lookup] at z
          · have hb : (i == p1) = false := by simpa using fun z => hi z.symm
            have hv : valueAt ((.inl p1, .int p2 u) :: vs) (.inl i : L2.Key) = valueAt vs (.inl i) := by
              simp [valueAt, List.find?_cons, hi]
            rw [hv]
            simp only [List.lookup, hb]
            exact g4 i
      · cases h3
theorem diB_ok {P : Program} {w : World} {K : PySem.W.Frag} {a : Addr} {ps : List (Int × Int)} {h : Heap} (c : diB K a ps = true) (X : K.In h) : (a == sysModules) = false ∧ ∃ vs, h.DictOf (mixKind P w) a vs ∧
    ∀ i, (∀ j, ps.lookup i = some j → ∃ t, valueAt vs (.inl i) = some (.int j t)) ∧ (ps.lookup i = none → valueAt vs (.inl i) = none) := by
  unfold diB at c
  obtain ⟨c, c3⟩ := dec_and c
  obtain ⟨c1, c2⟩ := dec_and c
  refine ⟨by simpa using c1, ?_⟩
  split at c3
  · rename_i cn es ep sl q
    obtain ⟨c4, c5⟩ := dec_and c3
    obtain ⟨c4, c6⟩ := dec_and c4
    obtain ⟨vs, g1, g2, g3, g4⟩ := ents_ok (P := P) (w := w) c5
    refine ⟨vs, ⟨_, es, ep, X _ _ q, ⟨by rw [of_decide_eq_true c4], rfl, by simpa using c6⟩, rfl, ?_, g1, ?_⟩, g4⟩
    · intro e he
      exact g2 e (by simpa using he)
    · rw [g3]
      exact of_decide_eq_true c2
  · cases c3
section
variable {T : Tx} {xt : Xt} {X : Cx} {a : Addr} {ps : List (Int × Int)}
/-- i in D, D[i], D a module's dict -/
theorem op_gin (c : diB X.K a ps = true) : OpR X (compareOp .In) (fun x y H Q => y = .ref a ∧ r1 T xt (ginR ps) x H Q) := by
  rintro pins s σ H x y v u Q I rx ry ⟨rfl, F, ρ, m, w, R, hx, A⟩
  cases ry
  replace A : After T xt F ρ (ginR ps m w) (KV1 T Q) (fun _ _ _ => True) := A
  unfold ginR at A
  split at A
  · rename_i n
    obtain ⟨hd, vs, dd, look⟩ := diB_ok (P := X.prog) (w := X.w) c I.kIn
    have ex := RD.intV hx
    subst ex
    refine wpAny_in_of (knd := mixKind X.prog X.w) (k := .inl n) (kV_is (k := .inl n) rx) hd dd.mapOf ⟨.bl _, H, I.tok _, rfl, ?_⟩
    have e : (valueAt vs (.inl n : L2.Key)).isSome = (ps.lookup n).isSome := by
      cases z : ps.lookup n with
      | none => rw [(look n).2 z]; rfl
      | some j => obtain ⟨t, q⟩ := (look n).1 j z; rw [q]; rfl
    rw [e]
    exact fin_old A R (.bl _)
  · exact A.elim
theorem ix_gget (c : diB X.K a ps = true) : IxR X (fun x y H Q => x = .ref a ∧ r1 T xt (ggetR ps) y H Q) := by
  rintro value slice pins s σ H x y v u Q I rx ry ⟨rfl, F, ρ, m, w, R, hy, A⟩ hs
  cases rx
  replace A : After T xt F ρ (ggetR ps m w) (KV1 T Q) (fun _ _ _ => True) := A
  unfold ggetR at A
  split at A
  · rename_i n
    obtain ⟨hd, vs, dd, look⟩ := diB_ok (P := X.prog) (w := X.w) c I.kIn
    have ey := RD.intV hy
    subst ey
    split at A
    · rename_i j ej
      obtain ⟨t, q⟩ := (look n).1 j ej
      exact tail_any dd.typeIs PySem.F.slot_dict_getitem.lookup (wpAny_getItem_of (knd := mixKind X.prog X.w) (k := .inl n) (kV_is (k := .inl n) ry) dd.mapOf q ⟨.int j, H, I.tok _, ⟨t, rfl⟩, fin_old A R (.int j)⟩) hs
    · exact A.elim
  · exact A.elim
variable {W' : WX} {C : Calls} {σ : L2.St} {H : Hp} {e : E} {Q : VK} {x : String}
theorem s_gin (h : tE T xt W' (fun ws m => evE C ws m (.gin x ps e)) σ H Q) : tOp (fun x y H Q => y = .ref a ∧ r1 T xt (ginR ps) x H Q) (tE T xt W' fun ws m => evE C ws m e) (tC (.ref a)) σ H Q := by
  simp only [evE] at h
  refine tE_bind (f := fun ws x m => ginR ps m x) h fun F ρ m ws v w H1 R S hv A => ?_
  exact ⟨rfl, F, ρ, m, w, R, hv, A.imp (fun _ _ _ _ _ _ _ _ z => z) fun _ _ _ _ => trivial⟩
theorem s_gget (h : tE T xt W' (fun ws m => evE C ws m (.gget x ps e)) σ H Q) : tOp (fun x y H Q => x = .ref a ∧ r1 T xt (ggetR ps) y H Q) (tC (.ref a)) (tE T xt W' fun ws m => evE C ws m e) σ H Q := by
  simp only [evE] at h
  obtain ⟨F, ρ, m, ws, R, S, A⟩ := tE_bind (f := fun ws x m => ggetR ps m x) (R := fun y H2 => V.ref a = .ref a ∧ r1 T xt (ggetR ps) y H2 Q) h fun F ρ m ws v w H1 R S hv A =>
    ⟨rfl, F, ρ, m, w, R, hv, A.imp (fun _ _ _ _ _ _ _ _ z => z) fun _ _ _ _ => trivial⟩
  exact ⟨F, ρ, m, ws, R, S, A⟩
end
end Cn

/-! # a module's dict by texts -/
namespace Cn
open PySem PySem.Spec PyProof.Rows L2
def entS (e : DictEntry) (p : List Nat × Int) : Bool := match e.key, e.val with
  | .str x _, .int j _ => decide (x = strV p.1) && decide (j = p.2)
  | _, _ => false
def entsS : List DictEntry → List (List Nat × Int) → Bool
  | [], ps => ps.isEmpty
  | e :: r, ps => (match ps with | p :: s => entS e p && entsS r s | [] => false)
def dsB (K : PySem.W.Frag) (a : Addr) (ps : List (List Nat × Int)) : Bool := match K.lookup a with
  | some ⟨_, _, .dict es _, _⟩ => entsS es.toList ps
  | _ => false
theorem entsS_ok (cs : List Nat) : ∀ {es : List DictEntry} {ps : List (List Nat × Int)}, entsS es ps = true → es.any (·.refKey) = false ∧
    (∀ j, ps.lookup cs = some j → ∃ e t, es.find? (·.key.isStr (strV cs)) = some e ∧ e.val = .int j t) ∧ (ps.lookup cs = none → es.find? (·.key.isStr (strV cs)) = none)
  | [], ps, h => by
    unfold entsS at h
    cases ps with
    | nil => exact ⟨rfl, (fun j z => by cases z), fun _ => rfl⟩
    | cons _ _ => cases h
  | e :: r, ps, h => by
    unfold entsS at h
    cases ps with
    | nil => cases h
    | cons p s =>
      obtain ⟨h1, h2⟩ := dec_and h
      obtain ⟨g1, g2, g3⟩ := entsS_ok cs h2
      obtain ⟨hs, ky, vl⟩ := e
      unfold entS at h1
      dsimp only at h1
      split at h1
      · rename_i x t j u
        obtain ⟨e1, e2⟩ := dec_and h1
        have e1 := of_decide_eq_true e1
        have e2 := of_decide_eq_true e2
        subst e1 e2
        obtain ⟨p1, p2⟩ := p
        have hk : ∀ {q : Bool}, (Value.str (strV p1) t).isStr (strV cs) = (p1 == cs) := by
          intro q
          show (strV p1 == strV cs) = _
          exact strV_beq p1 cs
        refine ⟨by rw [List.any_cons, g1]; rfl, fun j z => ?_, fun z => ?_⟩
        · by_cases hc : p1 = cs
          · subst hc
            have : j = p2 := by simpa [List.lookup] using z.symm
            subst this
            exact ⟨_, u, by rw [List.find?_cons, hk (q := true)]; simp; rfl, rfl⟩
          · have hb : (cs == p1) = false := by simpa using fun z => hc z.symm
            have hb' : (p1 == cs) = false := by simpa using hc
            simp only [List.lookup, hb] at z
            rw [List.find?_cons, hk (q := true), hb']
            exact g2 j z
        · by_cases hc : p1 = cs
          · subst hc
            simp [List.lookup] at z
          · have hb : (cs == p1) = false := by simpa using fun z => hc z.symm
            have hb' : (p1 == cs) = false := by simpa using hc
            simp only [List.lookup, hb] at z
            rw [List.find?_cons, hk (q := true), hb']
            exact g3 z
      · cases h1
theorem dsB_ok {K : PySem.W.Frag} {a : Addr} {ps : List (List Nat × Int)} (h : dsB K a ps = true) (cs : List Nat) : (∀ j, ps.lookup cs = some j → ∃ t, PySem.W.nsIn K a (strV cs) = some (some (.int j t))) ∧ (ps.lookup cs = none → PySem.W.nsIn K a (strV cs) = some none) := by
  unfold dsB at h
  split at h
  · rename_i es n sl q
    obtain ⟨g1, g2, g3⟩ := entsS_ok cs h
    refine ⟨fun j z => ?_, fun z => ?_⟩
    · obtain ⟨e, t, e1, e2⟩ := g2 j z
      refine ⟨t, ?_⟩
      unfold PySem.W.nsIn
      simp only [q, e1, e2]
    · unfold PySem.W.nsIn
      simp only [q, g3 z, g1]
      rfl
  · cases h
section
variable {T : Tx} {xt : Xt} {X : Cx} {a : Addr} {ps : List (List Nat × Int)} {es : Array DictEntry} {n : Nat}
theorem op_ginS (D : KDict X.K X.w a es n) (c : dsB X.K a ps = true) : OpR X (compareOp .In) (fun x y H Q => y = .ref a ∧ r1 T xt (ginSR ps) x H Q) := by
  rintro pins s σ H x y v u Q I rx ry ⟨rfl, F, ρ, m, w, R, hx, A⟩
  replace A : After T xt F ρ (ginSR ps m w) (KV1 T Q) (fun _ _ _ => True) := A
  unfold ginSR at A
  split at A
  · rename_i cs
    have ex := RD.strV' hx
    subst ex
    obtain ⟨k1, k2⟩ := dsB_ok c cs
    cases z : ps.lookup cs with
    | none =>
      rw [z] at A
      exact op_in_kd D pins s σ H _ _ v u Q I rx ry ⟨_, none, rfl, rfl, k2 z, fin_old A R (.bl _)⟩
    | some j =>
      rw [z] at A
      obtain ⟨t, e⟩ := k1 j z
      exact op_in_kd D pins s σ H _ _ v u Q I rx ry ⟨_, some _, rfl, rfl, e, fin_old A R (.bl _)⟩
  · exact A.elim
theorem ix_ggetS (D : KDict X.K X.w a es n) (c : dsB X.K a ps = true) : IxR X (fun x y H Q => x = .ref a ∧ r1 T xt (ggetSR ps) y H Q) := by
  rintro value slice pins s σ H x y v u Q I rx ry ⟨rfl, F, ρ, m, w, R, hy, A⟩ hs
  replace A : After T xt F ρ (ggetSR ps m w) (KV1 T Q) (fun _ _ _ => True) := A
  unfold ggetSR at A
  split at A
  · rename_i cs
    have ey := RD.strV' hy
    subst ey
    split at A
    · rename_i j ej
      obtain ⟨t, e⟩ := (dsB_ok c cs).1 j ej
      have ty := kd_type D I
      cases rx
      have h := op_item_kd D pins s σ H _ _ _ u Q I (show RelV (.ref a) (.ref a) from rfl) ry ⟨_, _, .int j, rfl, rfl, e, ⟨t, rfl⟩, fin_old A R (.int j)⟩
      exact tail_any ty PySem.F.slot_dict_getitem.lookup h hs
    · exact A.elim
  · exact A.elim
variable {W' : WX} {C : Calls} {σ : L2.St} {H : Hp} {e : E} {Q : VK} {x : String}
theorem s_ginS (h : tE T xt W' (fun ws m => evE C ws m (.ginS x ps e)) σ H Q) : tOp (fun x y H Q => y = .ref a ∧ r1 T xt (ginSR ps) x H Q) (tE T xt W' fun ws m => evE C ws m e) (tC (.ref a)) σ H Q := by
  simp only [evE] at h
  refine tE_bind (f := fun ws x m => ginSR ps m x) h fun F ρ m ws v w H1 R S hv A => ?_
  exact ⟨rfl, F, ρ, m, w, R, hv, A.imp (fun _ _ _ _ _ _ _ _ z => z) fun _ _ _ _ => trivial⟩
theorem s_ggetS (h : tE T xt W' (fun ws m => evE C ws m (.ggetS x ps e)) σ H Q) : tOp (fun x y H Q => x = .ref a ∧ r1 T xt (ggetSR ps) y H Q) (tC (.ref a)) (tE T xt W' fun ws m => evE C ws m e) σ H Q := by
  simp only [evE] at h
  obtain ⟨F, ρ, m, ws, R, S, A⟩ := tE_bind (f := fun ws x m => ggetSR ps m x) (R := fun y H2 => V.ref a = .ref a ∧ r1 T xt (ggetSR ps) y H2 Q) h fun F ρ m ws v w H1 R S hv A =>
    ⟨rfl, F, ρ, m, w, R, hv, A.imp (fun _ _ _ _ _ _ _ _ z => z) fun _ _ _ _ => trivial⟩
  exact ⟨F, ρ, m, ws, R, S, A⟩
end
end Cn

/-! # built-ins -/
namespace Cn
open PySem PySem.Spec PyProof.Rows L2
/-- a call of one value -/
def rC1 (T : Tx) (xt : Xt) (f : Mu → W → Res W) : List V → Hp → VK → Prop := fun xs H Q => ∃ x, xs = [x] ∧ r1 T xt f x H Q
def rC2 (T : Tx) (xt : Xt) (f : Mu → W → W → Res W) : List V → Hp → VK → Prop := fun xs H Q => ∃ x y, xs = [x, y] ∧ r2 T xt f x y H Q
section
variable {T : Tx} {F H : Hp} {ρ : Ro} {m : Mu}
theorem blDs_at : ∀ {vs : List V} {xs : List D} {bs : List Bool}, RDs T F vs xs → blDs xs = some bs → vs = bs.map V.bl
  | _, _, _, .nil, e => by cases e; rfl
  | _, _, _, .cons (x := x) (xs := xs) h t, e => by
    unfold blDs at e
    split at e
    · rename_i i is' e1 e2
      cases e
      have := blDs_at t e2
      cases h <;> cases e1
      rw [this]
      rfl
    · cases e
theorem intDs_at : ∀ {vs : List V} {xs : List D} {bs : List Int}, RDs T F vs xs → intDs xs = some bs → vs = bs.map V.int
  | _, _, _, .nil, e => by cases e; rfl
  | _, _, _, .cons (x := x) (xs := xs) h t, e => by
    unfold intDs at e
    split at e
    · rename_i i is' e1 e2
      cases e
      have := intDs_at t e2
      cases h <;> cases e1
      rw [this]
      rfl
    · cases e
/-- a list that is to be read -/
theorem Rel.lstH (R : Rel T F ρ H m) {v : V} {w : W} {xs : List D} (hw : RW T F ρ v w) (e : rd m w = some (.lst xs)) : ∃ a vs, v = .ref a ∧ Rd H a (.lst vs) ∧ RDs T F vs xs := by
  cases w with
  | d y =>
    cases e
    obtain ⟨a, vs, rfl, ha, h⟩ := RD.seqL hw
    exact ⟨a, vs, rfl, R.sub.rd ha, h⟩
  | kt y => cases e; cases hw
  | h k =>
    obtain ⟨p', e1, rfl⟩ := hw
    simp only [rd] at e
    split at e
    · rename_i r hr
      split at e
      · rename_i ys hl
        cases e
        obtain ⟨us, g1, g2⟩ := R.lstD e1 hr hl
        exact ⟨_, us, rfl, .inl g1, g2⟩
      · cases e
    · cases e
  | hi k f =>
    obtain ⟨a', e1, rfl⟩ := hw
    simp only [rd] at e
    split at e
    · rename_i ys hy
      cases e
      obtain ⟨g, hg, hf⟩ := inAt_some hy
      obtain ⟨p, u, _, _, g1, ⟨us, rfl, g2⟩, _⟩ := R.roI e1 hg hf
      exact ⟨_, us, rfl, .inl g1, g2⟩
    · cases e
  | clo _ _ => cases e
/-- a tuple that is to be read -/
theorem Rel.tupH (R : Rel T F ρ H m) {v : V} {w : W} {xs : List D} (hw : RW T F ρ v w) (e : rd m w = some (.tup xs)) : ∃ a vs, v = .ref a ∧ SqT T.K H a vs ∧ vs.length = xs.length ∧ ((∃ y, w = .d y ∧ RDs T F vs xs) ∨ (∃ y, w = .kt y) ∧ RKs T.K vs xs) := by
  cases w with
  | d y =>
    cases e
    obtain ⟨a, vs, rfl, ha, h⟩ := RD.seqT hw
    exact ⟨a, vs, rfl, .of (R.sub _ _ ha), h.length, .inl ⟨_, rfl, h⟩⟩
  | kt y =>
    cases e
    cases hw with
    | tup a b => exact ⟨_, _, rfl, a H, b.length, .inr ⟨⟨_, rfl⟩, b⟩⟩
  | h k =>
    simp only [rd] at e
    split at e
    · split at e <;> cases e
    · cases e
  | hi k f =>
    simp only [rd] at e
    split at e <;> cases e
  | clo _ _ => cases e
theorem foldl_max (is : List Int) : ∀ i : Int, (is.foldl max i ∈ i :: is) ∧ ∀ y ∈ i :: is, y ≤ is.foldl max i := by
  induction is with
  | nil => intro i; simp
  | cons a r ih =>
    intro i
    obtain ⟨h1, h2⟩ := ih (max i a)
    have h1' : r.foldl max (max i a) ∈ max i a :: r := h1
    refine ⟨?_, fun y hy => ?_⟩
    · show r.foldl max (max i a) ∈ i :: a :: r
      rcases List.mem_cons.mp h1' with e | e
      · rw [e]
        rcases Int.le_total i a with q | q
        · rw [Int.max_eq_right q]; simp
        · rw [Int.max_eq_left q]; simp
      · exact List.mem_cons_of_mem _ (List.mem_cons_of_mem _ e)
    · show y ≤ r.foldl max (max i a)
      have base := h2 (max i a) List.mem_cons_self
      rcases List.mem_cons.mp hy with e | hy
      · rw [e]; exact Int.le_trans (Int.le_max_left _ _) base
      · rcases List.mem_cons.mp hy with e | hy
        · rw [e]; exact Int.le_trans (Int.le_max_right _ _) base
        · exact h2 y (List.mem_cons_of_mem _ hy)
theorem strI_eq (i : Int) : (strV (strI i)) = (toString i : Str) := by
  have hs : ∀ s : String, (s : Str) = ⟨(s.toList.map Char.toNat).toArray⟩ := by
    intro s
    exact Str.ofString_eq_toList s
  cases i with
  | ofNat n =>
    show strV (digits n) = ((toString (Int.ofNat n) : String) : Str)
    rw [hs]
    show strV (digits n) = ⟨(((Nat.repr n).toList).map Char.toNat).toArray⟩
    unfold Nat.repr digits strV
    simp
  | negSucc n =>
    show strV (45 :: digits (n + 1)) = ((toString (Int.negSucc n) : String) : Str)
    rw [hs]
    show strV (45 :: digits (n + 1)) = ⟨((("-" ++ Nat.repr (n + 1) : String).toList).map Char.toNat).toArray⟩
    unfold Nat.repr digits strV
    simp
end
section
variable {T : Tx} {xt : Xt} {X : Cx}
def biV : Bi → Value
  | .len => .builtin "len"
  | .lenU => .builtin "len"
  | .ord => .builtin "ord"
  | .tuple => .type "tuple"
  | .any => .builtin "any"
  | .all => .builtin "all"
  | .str => .type "str"
  | .int => .type "int"
  | .max => .builtin "max"
theorem ref_rel {a : Addr} {v : Value} (h : RelV (.ref a) v) : v = .ref a := h
theorem call_b1 (hK : X.K = T.K) (hc : X.calm = true) (b : Bi) : CallR X (biV b) (rC1 T xt fun m => b1R m b) := by
  rintro pins s σ H xs us Q I rv ⟨x, rfl, F, ρ, m, w, R, hx, A⟩
  replace A : After T xt F ρ (b1R m b w) (KV1 T Q) (fun _ _ _ => True) := A
  unfold b1R at A
  split at A
  · -- len
    split at A
    · rename_i ws e
      obtain ⟨g, A⟩ := guard_ok A
      have gz := of_decide_eq_true g
      refine call_len pins s σ H _ us Q I rv ⟨x, ws.length, rfl, ?_, fin_old A R (.int _)⟩
      unfold items at e
      split at e
      · split at e
        · cases e
          cases hx with
          | tup a b => exact .inr ⟨_, by rw [hK]; exact a H, by rw [List.length_map]; exact b.length.symm⟩
        · cases e
      · cases e
        cases hx
        refine ⟨?_, by rw [strV_len]; simp⟩
        rw [strV_len]
        rw [List.length_map] at gz
        exact gz
      · cases e
        obtain ⟨a, vs, rfl, ha, h1⟩ := RD.seqT hx
        exact .inr ⟨vs, .of (R.sub _ _ ha), by rw [List.length_map]; exact h1.length.symm⟩
      · split at e
        · rename_i ys ey
          cases e
          obtain ⟨a, vs, rfl, ha, h1⟩ := R.lstH hx ey
          exact .inl ⟨vs, .inl ha, by rw [List.length_map]; exact h1.length.symm⟩
        · cases e
    · exact A.elim
  · -- lenU
    split at A
    · split at A
      · rename_i ul hr
        obtain ⟨g, A⟩ := guard_ok A
        obtain ⟨p, e1, rfl⟩ := hx
        obtain ⟨vs, h1, h2⟩ := R.rootLst e1 hr
        exact call_len pins s σ H _ us Q I rv ⟨_, ul.length, rfl, .inl ⟨vs, .inl (.inl h1), (PairedLen h2).symm⟩, fin_old A R (.int _)⟩
      · exact A.elim
    · exact A.elim
  · cases hx
    refine call_ord pins s σ H _ us Q I rv ⟨_, rfl, by rw [strV_len]; rfl, ?_⟩
    exact fin_old A R (.int _)
  · split at A
    · rename_i xs e
      obtain ⟨a, vs, rfl, ha, h1⟩ := R.lstH hx e
      exact call_tuple_of pins s σ H _ us Q I rv ⟨a, vs, rfl, .inl ⟨.inl ha, fun p n => fin_tup A R h1 n⟩⟩
    · exact A.elim
  · split at A
    · rename_i xs e
      split at A
      · rename_i bs eb
        obtain ⟨a, vs, rfl, ha, h1⟩ := R.lstH hx e
        have := blDs_at h1 eb
        subst this
        exact cr_any hc pins s σ H _ us Q I rv ⟨a, bs, rfl, .inl ha, fin_old A R (.bl _)⟩
      · exact A.elim
    · exact A.elim
  · split at A
    · rename_i xs e
      split at A
      · rename_i bs eb
        obtain ⟨a, vs, rfl, ha, h1⟩ := R.lstH hx e
        have := blDs_at h1 eb
        subst this
        exact cr_all hc pins s σ H _ us Q I rv ⟨a, bs, rfl, .inl ha, fin_old A R (.bl _)⟩
      · exact A.elim
    · exact A.elim
  · split at A
    · rename_i xs e
      split at A
      · rename_i i is eb
        obtain ⟨a, vs, rfl, ha, h1⟩ := R.lstH hx e
        have := intDs_at h1 eb
        subst this
        refine cr_max hc pins s σ H _ us Q I rv ⟨a, i :: is, rfl, .inl ha, by simp, fun k hk hm => ?_⟩
        obtain ⟨f1, f2⟩ := foldl_max is i
        have : k = is.foldl max i := Int.le_antisymm (f2 k hk) (hm _ f1)
        rw [this]
        exact fin_old A R (.int _)
      · exact A.elim
    · exact A.elim
  · rename_i i
    obtain ⟨g, A⟩ := guard_ok A
    have ex := RD.intV hx
    subst ex
    refine call_str_int pins s σ H _ us Q I rv ⟨i, rfl, ?_, ?_⟩
    · have g' := of_decide_eq_true g
      by_cases z : i.natAbs = 0
      · rw [z]; decide
      · have h1 : i.natAbs.log2 < 1919 := (Nat.log2_lt z).mpr g'
        omega
    · rw [← strI_eq]
      exact fin_old A R (.str _)
  · cases hx
    refine call_int1 pins s σ H _ us Q I rv (.inr ⟨_, rfl, ?_⟩)
    exact fin_old A R (.int _)
  · exact A.elim
theorem call_dm : CallR X (.builtin "divmod") (rC2 T xt dmR) := by
  rintro pins s σ H xs us Q I rv ⟨x, y, rfl, F, ρ, m, w, u, R, hx, hy, A⟩
  replace A : After T xt F ρ (dmR m w u) (KV1 T Q) (fun _ _ _ => True) := A
  unfold dmR at A
  split at A
  · obtain ⟨g, A⟩ := guard_ok A
    obtain ⟨g1, g2⟩ := dec_and g
    cases hx
    cases hy
    exact call_divmod pins s σ H _ us Q I rv ⟨_, _, rfl, ⟨of_decide_eq_true g1, of_decide_eq_true g2⟩, fun p n => fin_tup A R (.cons (.int _) (.cons (.int _) .nil)) n⟩
  · exact A.elim
end
end Cn

/-! # lists that change -/
namespace Cn
open PySem PySem.Spec PyProof.Rows L2
section
variable {T : Tx} {F H : Hp} {ρ : Ro} {m : Mu}
theorem getElem?_set_of {α : Type} {l : List α} {i j : Nat} {a b : α} (h : (l.set i a)[j]? = some b) : (i = j ∧ a = b) ∨ (i ≠ j ∧ l[j]? = some b) := by
  by_cases e : i = j
  · subst e
    have hl : i < l.length := by
      have := (List.getElem?_eq_some_iff.mp h).1
      simpa using this
    rw [List.getElem?_set_self hl] at h
    cases h
    exact .inl ⟨rfl, rfl⟩
  · rw [List.getElem?_set_ne e] at h
    exact .inr ⟨e, h⟩
/-- a plain object goes over into another -/
theorem Rel.adopt1 (R : Rel T F ρ H m) {n k : Nat} {p q : Addr × List Addr} {g : Gr} {o : Fo} (hne : k ≠ n) (e : ρ[n]? = some p) (hg : m[n]? = some (some g)) (eq : ρ[k]? = some q) (hk : m[k]? = some (some ⟨.o o, []⟩)) :
    Rel T F (ρ.set n (p.1, p.2 ++ [q.1])) H ((m.set n (some { g with inn := g.inn ++ [some o] })).set k none) := by
  obtain ⟨ow, hx⟩ := R.ex
  have hn := hx n p g e hg
  have hq := hx k q _ eq hk
  obtain ⟨uo, ho, hro⟩ := hq.root
  refine ⟨R.sub, by simp [R.len], ⟨fun b => if b = q.1 then (n, some g.inn.length) else ow b, fun j p' g' e' q' => ?_⟩, R.sd, R.sf⟩
  have nq : ∀ {b : Addr} {y : Nat × Option Nat}, ow b = y → y ≠ (k, none) → b ≠ q.1 := fun {b y} h1 h2 z => by
    rw [z, hq.own] at h1
    exact h2 h1.symm
  rcases getElem?_set_of q' with ⟨_, z⟩ | ⟨hkj, q'⟩
  · cases z
  rcases getElem?_set_of q' with ⟨rfl, z⟩ | ⟨hnj, q'⟩
  · cases z
    rcases getElem?_set_of e' with ⟨_, z⟩ | ⟨hb, _⟩
    · cases z
      obtain ⟨u1, h1, h1'⟩ := hn.root
      refine ⟨(if_neg (nq hn.own (by simp [Ne.symm hne]))).trans hn.own, hn.fr, ⟨u1, h1, RR.mono Le.rfl' [q.1] h1'⟩, by simp [hn.len], fun f b o' e1 e2 => ?_, hn.sd.1, fun f b o' e1 e2 => ?_⟩
      rotate_left
      · have e1' : (p.2 ++ [q.1])[f]? = some b := e1
        have e2' : (g.inn ++ [some o])[f]? = some (some o') := e2
        by_cases hf : f < p.2.length
        · rw [List.getElem?_append_left hf] at e1'
          rw [List.getElem?_append_left (by rw [← hn.len]; exact hf)] at e2'
          exact hn.sd.2 f b o' e1' e2'
        · have hlt := (List.getElem?_eq_some_iff.mp e1').1
          simp at hlt
          have hfe : f = p.2.length := by omega
          subst hfe
          rw [List.getElem?_append_right (Nat.le_refl _)] at e1'
          simp at e1'
          subst e1'
          exact hq.sd.1
      by_cases hf : f < p.2.length
      · have e1' : (p.2 ++ [q.1])[f]? = some b := e1
        have e2' : (g.inn ++ [some o])[f]? = some (some o') := e2
        rw [List.getElem?_append_left hf] at e1'
        rw [List.getElem?_append_left (by rw [← hn.len]; exact hf)] at e2'
        obtain ⟨k1, k2, u, k3, k4⟩ := hn.inn f b o' e1' e2'
        exact ⟨(if_neg (nq k1 (by simp))).trans k1, k2, u, k3, k4⟩
      · have e1' : (p.2 ++ [q.1])[f]? = some b := e1
        have e2' : (g.inn ++ [some o])[f]? = some (some o') := e2
        have hlt := (List.getElem?_eq_some_iff.mp e1').1
        simp at hlt
        have hfe : f = p.2.length := by omega
        subst hfe
        rw [List.getElem?_append_right (Nat.le_refl _)] at e1'
        rw [hn.len, List.getElem?_append_right (Nat.le_refl _)] at e2'
        simp at e1' e2'
        subst e1' e2'
        exact ⟨by rw [hn.len]; simp, hq.fr, uo, ho, hro⟩
    · exact absurd rfl hb
  · rcases getElem?_set_of e' with ⟨hb, _⟩ | ⟨_, e'⟩
    · exact absurd hb hnj
    · obtain ⟨h1, h2, h3, h4, h5, h6⟩ := hx j p' g' e' q'
      refine ⟨(if_neg (nq h1 (by simp [Ne.symm hkj]))).trans h1, h2, h3, h4, fun f b u e1 e2 => ?_, h6⟩
      obtain ⟨k1, k2, u', k3, k4⟩ := h5 f b u e1 e2
      exact ⟨(if_neg (nq k1 (by simp))).trans k1, k2, u', k3, k4⟩
theorem RoLe.setInn {n : Nat} {p : Addr × List Addr} {a : Addr} (e : ρ[n]? = some p) : RoLe ρ (ρ.set n (p.1, p.2 ++ [a])) := by
  refine ⟨by simp, fun j q eq => ?_⟩
  by_cases h : n = j
  · subst h
    rw [e] at eq
    cases eq
    exact ⟨[a], by rw [List.getElem?_set_self (List.getElem?_eq_some_iff.mp e).1]⟩
  · exact ⟨[], by rw [List.getElem?_set_ne h, eq]; simp⟩
/-- what is stored goes over: the new places, the value as a thing of the object n -/
theorem Rel.adopt (R : Rel T F ρ H m) {n : Nat} {p : Addr × List Addr} {g : Gr} {v : V} {w : W} (e : ρ[n]? = some p) (hg : m[n]? = some (some g)) (hv : RW T F ρ v w) {u : U} {m' : Mu} (ha : adopt m n w = .ok u m') :
    ∃ ρ' p' g', Rel T F ρ' H m' ∧ RoLe ρ ρ' ∧ ρ'[n]? = some p' ∧ p'.1 = p.1 ∧ m'[n]? = some (some g') ∧ g'.root = g.root ∧ RU T F p'.2 v u ∧ ∃ as, p'.2 = p.2 ++ as := by
  unfold Cn.adopt at ha
  split at ha
  · cases ha
    exact ⟨ρ, p, g, R, .rfl', e, rfl, hg, rfl, hv, [], by simp⟩
  · rename_i k
    split at ha
    · cases ha
    · rename_i hne
      split at ha
      · rename_i o g1 hk hg1
        cases ha
        have hk' := grAt_some hk
        have hg1' := grAt_some hg1
        rw [hg] at hg1'
        cases hg1'
        obtain ⟨q, eq, rfl⟩ := hv
        have hn := (R.at e hg).choose_spec
        refine ⟨_, (p.1, p.2 ++ [q.1]), { g with inn := g.inn ++ [some o] }, R.adopt1 hne e hg eq hk', RoLe.setInn e, List.getElem?_set_self (List.getElem?_eq_some_iff.mp e).1, rfl, ?_, ?_, ⟨q.1, ?_, rfl⟩, [q.1], rfl⟩
        · rw [List.getElem?_set_ne hne, List.getElem?_set_self (List.getElem?_eq_some_iff.mp hg).1]
        · rfl
        · show (p.2 ++ [q.1])[g.inn.length]? = some q.1
          rw [← hn.len, List.getElem?_append_right (Nat.le_refl _)]
          simp
      · cases ha
  · cases ha
/-- the plain object behind a value: where it stands, what it is set to -/
theorem Rel.fo (R : Rel T F ρ H m) {v : V} {w : W} {o : Fo} (hw : RW T F ρ v w) (e : foAt m w = some o) : ∃ a ho, v = .ref a ∧ H a = some ho ∧ RF T F o ho ∧ ∀ o' ho', RF T F o' ho' → Rel T F ρ (upd H a ho') (setFo m o' w) := by
  unfold foAt at e
  split at e
  · rename_i n
    split at e
    · rename_i o1 hr
      cases e
      obtain ⟨p, e1, rfl⟩ := hw
      obtain ⟨g, hg, hq⟩ := rootAt_some hr
      obtain ⟨ho, h1, h2⟩ := R.rootFo e1 hr
      exact ⟨_, ho, rfl, h1, h2, fun o' ho' r => R.setRoot e1 hg r⟩
    · cases e
  · rename_i n f
    obtain ⟨a, e1, rfl⟩ := hw
    obtain ⟨g, hg, hf⟩ := inAt_some e
    obtain ⟨p, u, z, e2, h1, h2, _⟩ := R.roI e1 hg hf
    exact ⟨a, u, rfl, h1, h2, fun o' ho' r => R.setIn z hg e2 hf r⟩
  · cases e
end
section
variable {T : Tx} {xt : Xt} {X : Cx}
def rM1 (T : Tx) (xt : Xt) (f : Mu → W → W → Res W) : V → List V → Hp → VK → Prop := fun x xs H Q => ∃ y, xs = [y] ∧ r2 T xt f x y H Q
def rM0 (T : Tx) (xt : Xt) (f : Mu → W → Res W) : V → List V → Hp → VK → Prop := fun x xs H Q => xs = [] ∧ r1 T xt f x H Q
theorem appFo_R {pins : List (Addr × Obj)} {s : Shared} {σ : L2.St} {H : Hp} {x y : V} {v : Value} {us : List Value} {Q : VK} {F : Hp} {ρ : Ro} {m : Mu} {w u : W} {e : XK} (I : Inv X pins σ H s) (rx : RelV x v) (rv : Vals [y] us)
    (R : Rel T F ρ H m) (hx : RW T F ρ x w) (hy : RW T F ρ y u) (A : After T xt F ρ (appFo m w u) (KV1 T Q) e) : wpAny (model X.prog X.w) X.A (call (.builtin "list.append") (v :: us)) (EP X pins σ Q) X.xe s := by
  unfold appFo at A
  split at A
  · rename_i xs d ef
    obtain ⟨g, A⟩ := guard_ok A
    obtain ⟨a, ho, rfl, h1, ⟨vs, rfl, h2⟩, h3⟩ := R.fo hx ef
    refine mt_append pins s σ H _ _ v us Q I rx rv ⟨a, vs, y, rfl, rfl, h1, by rw [h2.length]; exact of_decide_eq_true g, ?_⟩
    exact A F ρ _ (h3 _ _ ⟨_, rfl, h2.append (.cons hy .nil)⟩) Le.rfl' .rfl' _ .non
  · exact A.elim
theorem mt_app : MtR X "list.append" (rM1 T xt appR) := by
  rintro pins s σ H x xs v us Q I rx rv ⟨y, rfl, F, ρ, m, w, u, R, hx, hy, A⟩
  unfold appR at A
  split at A
  · rename_i n
    split at A
    · rename_i us' hr
      obtain ⟨g, A⟩ := guard_ok A
      obtain ⟨p, e1, rfl⟩ := hx
      obtain ⟨gr, hg, hq⟩ := rootAt_some hr
      obtain ⟨vs, h1, h2⟩ := R.rootLst e1 hr
      cases ea : adopt m n u with
      | ok z m' =>
        rw [ea] at A
        obtain ⟨ρ', p', g', R', le, e1', ep, hg', hroot, hz, as, eas⟩ := R.adopt e1 hg hy ea
        refine mt_append pins s σ H _ _ v us Q I rx rv ⟨p.1, vs, y, rfl, rfl, h1, ?_, ?_⟩
        · rw [PairedLen h2]; exact of_decide_eq_true g
        · have := R'.setRoot (ob := .lst (us' ++ [z])) (ho := .lst (vs ++ [y])) e1' hg' ⟨_, rfl, ?_⟩
          · rw [ep] at this
            exact A F ρ' _ this Le.rfl' le _ .non
          · have h2' := RUs.mono (F' := F) (bs := as) Le.rfl' h2
            rw [← eas] at h2'
            exact Paired.snoc h2' hz
      | exc z m' =>
        unfold adopt at ea
        split at ea
        · cases ea
        · split at ea
          · cases ea
          · split at ea <;> cases ea
        · cases ea
      | stuck => rw [ea] at A; exact A.elim
    · exact appFo_R I rx rv R hx hy A
  · exact appFo_R I rx rv R hx hy A
theorem mt_ext : MtR X "list.extend" (rM1 T xt extR) := by
  rintro pins s σ H x xs v us Q I rx rv ⟨y, rfl, F, ρ, m, w, u, R, hx, hy, A⟩
  unfold extR at A
  split at A
  · rename_i xs ys ef
    obtain ⟨g, A⟩ := guard_ok A
    obtain ⟨a, ho, rfl, h1, ⟨vs, rfl, h2⟩, h3⟩ := R.fo hx ef
    obtain ⟨b, zs, rfl, hb, h4⟩ := RD.seqL hy
    have l2 := h2.length
    have l4 := h4.length
    have fin := A F ρ _ (h3 _ _ ⟨_, rfl, h2.append h4⟩) Le.rfl' .rfl' _ .non
    have hz : vs.length + zs.length ≤ sizeLine := by rw [l2, l4]; exact of_decide_eq_true g
    rcases hb with hb | ⟨ob, hb⟩
    · exact mt_extend pins s σ H _ _ v us Q I rx rv ⟨a, b, vs, zs, rfl, rfl, h1, R.sub _ _ hb, hz, fin⟩
    · -- a list that was handed in
      cases rx
      obtain ⟨u', rfl, ru⟩ := rv.one
      cases ru
      obtain ⟨z, its, n, r, hl, e⟩ := I.lstM h1
      obtain ⟨z2, its2, n2, r2, e2⟩ := (Rd.ok (u := .lst zs) (.inr ⟨ob, R.sub _ _ hb⟩) I.hok)
      have hl2 := r2.length
      have hsz : its.toArray.size + its2.toArray.size ≤ sizeLine := by rw [List.size_toArray, List.size_toArray]; omega
      have hlong : ¬ (!its.toArray.isEmpty && Builtin.List.listTooLong (its.toArray.size + its2.toArray.size)) = true := by
        rw [notLongL hsz, Bool.and_false]
        exact Bool.false_ne_true
      refine call_meets PySem.F.slot_list_extend ⟨_, e, rfl⟩ PySem.F.entry_list_extend (PySem.F.args_list_extend_2 _ _)
        (AutoSeq1.list_extend_list_list_0 a its.toArray n b its2.toArray n2 hlong (by rw [List.size_toArray]; omega) (by omega)) ⟨e, e2, ?_⟩
      refine ⟨.non, _, I.lset (its' := its ++ its2) h1 e (by simp) (r.append r2) ?_, rfl, fin⟩
      rw [List.length_append]
      omega
  · exact A.elim
theorem mt_popR : MtR X "list.pop" (rM0 T xt popR) := by
  rintro pins s σ H x xs v us Q I rx rv ⟨rfl, F, ρ, m, w, R, hx, A⟩
  unfold popR at A
  split at A
  · rename_i n
    split at A
    · rename_i us' hr
      obtain ⟨p, e1, rfl⟩ := hx
      obtain ⟨gr, hg, hq⟩ := rootAt_some hr
      obtain ⟨vs, h1, h2⟩ := R.rootLst e1 hr
      split at A
      · rename_i z ez
        have hl := PairedLen h2
        rw [← hl] at ez
        obtain ⟨y, ey, hy⟩ : ∃ y, vs[vs.length - 1]? = some y ∧ RU T F p.2 y z := by
          have : atZ us' ((vs.length - 1 : Nat) : Int) = some z := by
            unfold atZ ixZ
            have hz := (List.getElem?_eq_some_iff.mp ez).1
            rw [if_pos (by omega), if_pos (by omega)]
            simpa using ez
          obtain ⟨y, e2, hy⟩ := h2.atI this
          refine ⟨y, ?_, hy⟩
          unfold L2.atI L2.ixN at e2
          have hz := (List.getElem?_eq_some_iff.mp ez).1
          rw [if_pos (by omega), if_pos (by omega)] at e2
          simpa using e2
        refine mt_pop pins s σ H _ _ v us Q I rx rv ⟨p.1, vs, y, rfl, rfl, h1, ey, ?_⟩
        have R' := R.setRoot (ob := .lst us'.dropLast) (ho := .lst vs.dropLast) e1 hg ⟨_, rfl, ?_⟩
        · exact A F ρ _ R' Le.rfl' .rfl' _ (toU_rw e1 hy)
        · clear ez ey R h1 hr A hq hl rv rx I
          induction h2 with
          | nil => exact .nil
          | cons a b ih =>
            cases b with
            | nil => exact .nil
            | cons c d => exact .cons a ih
      · exact A.elim
    · rename_i xs hr
      obtain ⟨p, e1, rfl⟩ := hx
      obtain ⟨gr, hg, hq⟩ := rootAt_some hr
      obtain ⟨ho, h1, vs, rfl, h2⟩ := R.rootFo e1 hr
      split at A
      · rename_i z ez
        rw [← h2.length] at ez
        obtain ⟨y, ey, hy⟩ := h2.get ez
        refine mt_pop pins s σ H _ _ v us Q I rx rv ⟨p.1, vs, y, rfl, rfl, h1, ey, ?_⟩
        exact A F ρ _ (R.setRoot e1 hg ⟨_, rfl, h2.dropLast⟩) Le.rfl' .rfl' _ hy
      · exact A.elim
    · exact A.elim
  · exact A.elim
/-- a list that may change is a list -/
theorem isLst_ty {K : PySem.W.Frag} {F H : Hp} {ρ : Ro} {m : Mu} (R : Rel T F ρ H m) {v : V} {w : W} (hw : RW T F ρ v w) (h : isLst m w = true) : tyV K "list" v H := by
  unfold isLst at h
  split at h
  · split at h
    · rename_i n us hr
      obtain ⟨p, e1, rfl⟩ := hw
      obtain ⟨vs, h1, _⟩ := R.rootLst e1 hr
      exact .inl ⟨rfl, vs, .of h1⟩
    · rename_i n xs hr
      obtain ⟨p, e1, rfl⟩ := hw
      obtain ⟨ho, h1, vs, rfl, _⟩ := R.rootFo e1 hr
      exact .inl ⟨rfl, vs, .of h1⟩
    · cases h
  · split at h
    · rename_i n f xs hr
      obtain ⟨a, e1, rfl⟩ := hw
      obtain ⟨g, hg, hf⟩ := inAt_some hr
      obtain ⟨p, uo, _, _, h1, ⟨vs, rfl, _⟩, _⟩ := R.roI e1 hg hf
      exact .inl ⟨rfl, vs, .of h1⟩
    · cases h
  · cases h
theorem popR_ty {K : PySem.W.Frag} {F H : Hp} {ρ : Ro} {m : Mu} {Q : VK} {e : XK} (R : Rel T F ρ H m) {v : V} {w : W} (hw : RW T F ρ v w) (A : After T xt F ρ (popR m w) (KV1 T Q) e) : tyV K "list" v H := by
  refine isLst_ty R hw ?_
  unfold popR at A
  split at A
  · rename_i n
    unfold isLst
    split at A
    · rename_i us hr; simp only [hr]
    · rename_i us hr; simp only [hr]
    · exact A.elim
  · exact A.elim
end
section
variable {T : Tx} {xt : Xt} {X : Cx} {W' : WX} {C : Calls} {σ : L2.St} {H : Hp} {a b : E} {Q : VK}
theorem s_app (h : tE T xt W' (fun ws m => evE C ws m (.app a b)) σ H Q) : tBM X.K "list" (rM1 T xt appR) (tE T xt W' fun ws m => evE C ws m a) (tCons (tE T xt W' fun ws m => evE C ws m b) tNil) σ H Q := by
  simp only [evE] at h
  refine tE_bind (f := fun ws x m => guardR (isLst m x) ((evE C ws m b).bind fun y m => appR m x y)) h fun F ρ m ws v w H1 R S hv A => ?_
  obtain ⟨g, A⟩ := guard_ok A
  refine ⟨isLst_ty R hv g, F, ρ, m, ws, R, S, A.bind.imp (fun F1 ρ1 H2 m1 u r1 l1 g1 k y hy => ?_) fun _ _ _ z => z⟩
  exact ⟨y, rfl, F1, ρ1, m1, w, u, r1, hv.mono l1 g1, hy, k.imp (fun _ _ _ _ _ _ _ _ z => z) fun _ _ _ _ => trivial⟩
theorem s_ext (h : tE T xt W' (fun ws m => evE C ws m (.ext a b)) σ H Q) : tBM X.K "list" (rM1 T xt extR) (tE T xt W' fun ws m => evE C ws m a) (tCons (tE T xt W' fun ws m => evE C ws m b) tNil) σ H Q := by
  simp only [evE] at h
  refine tE_bind (f := fun ws x m => guardR (isLst m x) ((evE C ws m b).bind fun y m => extR m x y)) h fun F ρ m ws v w H1 R S hv A => ?_
  obtain ⟨g, A⟩ := guard_ok A
  refine ⟨isLst_ty R hv g, F, ρ, m, ws, R, S, A.bind.imp (fun F1 ρ1 H2 m1 u r1 l1 g1 k y hy => ?_) fun _ _ _ z => z⟩
  exact ⟨y, rfl, F1, ρ1, m1, w, u, r1, hv.mono l1 g1, hy, k.imp (fun _ _ _ _ _ _ _ _ z => z) fun _ _ _ _ => trivial⟩
theorem s_pop (h : tE T xt W' (fun ws m => evE C ws m (.pop a)) σ H Q) : tBM0 X.K "list" (rM0 T xt popR) (tE T xt W' fun ws m => evE C ws m a) σ H Q := by
  simp only [evE] at h
  refine tE_bind (f := fun ws x m => popR m x) h fun F ρ m ws v w H1 R S hv A => ?_
  exact ⟨popR_ty R hv A, rfl, F, ρ, m, w, R, hv, A.imp (fun _ _ _ _ _ _ _ _ z => z) fun _ _ _ _ => trivial⟩
theorem s_b1 {bi : Bi} (h : tE T xt W' (fun ws m => evE C ws m (.b1 bi a)) σ H Q) : tCB (rC1 T xt fun m => b1R m bi) (tCons (tE T xt W' fun ws m => evE C ws m a) tNil) σ H Q := by
  simp only [evE] at h
  refine tE_bind (f := fun ws x m => b1R m bi x) h fun F ρ m ws v w H1 R S hv A => ?_
  exact ⟨v, rfl, F, ρ, m, w, R, hv, A.imp (fun _ _ _ _ _ _ _ _ z => z) fun _ _ _ _ => trivial⟩
theorem s_dm (h : tE T xt W' (fun ws m => evE C ws m (.dm a b)) σ H Q) : tCB (rC2 T xt dmR) (tCons (tE T xt W' fun ws m => evE C ws m a) (tCons (tE T xt W' fun ws m => evE C ws m b) tNil)) σ H Q := by
  simp only [evE] at h
  refine tE_bind (f := fun ws x m => (evE C ws m b).bind fun y m => dmR m x y) h fun F ρ m ws v w H1 R S hv A => ?_
  refine ⟨F, ρ, m, ws, R, S, A.bind.imp (fun F1 ρ1 H2 m1 u r1 l1 g1 k y hy => ?_) fun _ _ _ z => z⟩
  exact ⟨v, y, rfl, F1, ρ1, m1, w, u, r1, hv.mono l1 g1, hy, k.imp (fun _ _ _ _ _ _ _ _ z => z) fun _ _ _ _ => trivial⟩
theorem s_ix (h : tE T xt W' (fun ws m => evE C ws m (.ix a b)) σ H Q) : tOp (r2 T xt ixR) (tE T xt W' fun ws m => evE C ws m a) (tE T xt W' fun ws m => evE C ws m b) σ H Q := by
  simp only [evE] at h
  exact tOp_of h
end
end Cn

/-! # what is walked: loops, comprehensions -/
namespace Cn
open PySem PySem.Spec PyProof.Rows L2
abbrev Tx.wi (T : Tx) (s : Hp) : Tx := { T with side := s }
section
variable {T : Tx} {s : Hp} {F H : Hp} {ρ : Ro} {m : Mu}
mutual
theorem RD.wi : ∀ {v : V} {x : D}, RD T F v x → RD (T.wi s) F v x
  | _, _, .non => .non
  | _, _, .bl b => .bl b
  | _, _, .int i => .int i
  | _, _, .str cs => .str cs
  | _, _, .tup h r => .tup h (RDs.wi r)
  | _, _, .lst h r => .lst h (RDs.wi r)
  | _, _, .ins h n r => .ins (T := T.wi s) h n (RDs.wi r)
  | _, _, .dK h n r => .dK h n (RDs.wi r)
  | _, _, .dT h n r => .dT h n (RDs.wi r)
theorem RDs.wi : ∀ {vs : List V} {xs : List D}, RDs T F vs xs → RDs (T.wi s) F vs xs
  | _, _, .nil => .nil
  | _, _, .cons h r => .cons (RD.wi h) (RDs.wi r)
end
theorem RW.wi {v : V} : ∀ {w : W}, RW T F ρ v w → RW (T.wi s) F ρ v w
  | .d _, r => RD.wi r
  | .kt _, r => r
  | .h n, r => r
  | .hi n f, r => r
  | .clo _ _, r => r
theorem RSl.wi {σ : L2.St} {ws : Sl} (r : RSl T F ρ σ ws) : RSl (T.wi s) F ρ σ ws := ⟨r.1, fun i w e => by
  obtain ⟨v, e1, q⟩ := r.2 i w e
  exact ⟨v, e1, q.wi⟩⟩
theorem RU.wi {as : List Addr} {v : V} : ∀ {u : U}, RU T F as v u → RU (T.wi s) F as v u
  | .d _, r => RD.wi r
  | .i f, r => r
theorem RUs.wi {as : List Addr} : ∀ {vs : List V} {us : List U}, RUs T F as vs us → RUs (T.wi s) F as vs us
  | _, _, .nil => .nil
  | _, _, .cons r t => .cons (RU.wi r) (RUs.wi t)
theorem RF.wi {f : Fo} {o : HO} (r : RF T F f o) : RF (T.wi s) F f o := by
  cases f with
  | lst xs => obtain ⟨vs, e, q⟩ := r; exact ⟨vs, e, q.wi⟩
  | dK ks xs => obtain ⟨vs, e, n, q⟩ := r; exact ⟨vs, e, n, q.wi⟩
  | dT ks xs => obtain ⟨vs, e, n, q⟩ := r; exact ⟨vs, e, n, q.wi⟩
theorem RR.wi {as : List Addr} {f : Ob} {o : HO} (r : RR T F as f o) : RR (T.wi s) F as f o := by
  cases f with
  | lst us => obtain ⟨vs, e, q⟩ := r; exact ⟨vs, e, q.wi⟩
  | ins c us => obtain ⟨dx, vs, e, n, q⟩ := r; exact ⟨dx, vs, e, n, q.wi⟩
  | o f => exact RF.wi r
/-- another side -/
theorem Rel.side' (R : Rel T F ρ H m) {s : Hp} (sd : Le s H) (sf : ∀ a o, s a = some o → F a = none)
    (own : ∀ (n : Nat) (p : Addr × List Addr) (g : Gr), ρ[n]? = some p → m[n]? = some (some g) → s p.1 = none ∧ ∀ (f : Nat) (b : Addr) (o : Fo), p.2[f]? = some b → g.inn[f]? = some (some o) → s b = none) : Rel (T.wi s) F ρ H m := by
  obtain ⟨ow, hx⟩ := R.ex
  refine ⟨R.sub, R.len, ⟨ow, fun k p g e q => ?_⟩, sd, sf⟩
  obtain ⟨h1, h2, ⟨o1, h3, h3'⟩, h4, h5, h6⟩ := hx k p g e q
  refine ⟨h1, h2, ⟨o1, h3, h3'.wi⟩, h4, fun f b u e1 e2 => ?_, own k p g e q⟩
  obtain ⟨k1, k2, u', k3, k4⟩ := h5 f b u e1 e2
  exact ⟨k1, k2, u', k3, k4.wi⟩
/-- a new thing is laid aside -/
theorem Rel.aside (R : Rel T F ρ H m) {a : Addr} {o : HO} (n : H a = none) : Rel (T.wi (upd T.side a o)) F ρ (upd H a o) m := by
  have R1 : Rel T F ρ (upd H a o) m := R.side n
  refine R1.side' R.sd.both (fun b u e => ?_) fun k p g e q => ?_
  · by_cases h : b = a
    · subst h; exact R.sub.none n
    · rw [upd_ne h] at e
      exact R.sf b u e
  · obtain ⟨ow, hx⟩ := R.ex
    have hn := hx k p g e q
    obtain ⟨o1, h3, _⟩ := hn.root
    refine ⟨by rw [upd_ne (ne_of_none h3 n)]; exact hn.sd.1, fun f b u e1 e2 => ?_⟩
    obtain ⟨_, _, u', k3, _⟩ := hn.inn f b u e1 e2
    rw [upd_ne (ne_of_none k3 n)]
    exact hn.sd.2 f b u e1 e2
/-- what lies aside changes -/
theorem Rel.reside {S : Hp} {a : Addr} {o o' : HO} (R : Rel (T.wi (upd S a o)) F ρ H m) : Rel (T.wi (upd S a o')) F ρ (upd H a o') m := by
  obtain ⟨ow, hx⟩ := R.ex
  have fa : F a = none := R.sf a o upd_same
  have none_ : ∀ {b : Addr}, (upd S a o) b = none → b ≠ a ∧ S b = none := fun {b} e => by
    by_cases h : b = a
    · subst h
      rw [upd_same] at e; cases e
    · rw [upd_ne h] at e
      exact ⟨h, e⟩
  refine ⟨R.sub.upd fa, R.len, ⟨ow, fun k p g e q => ?_⟩, fun b u e => ?_, fun b u e => ?_⟩
  · have hn := hx k p g e q
    obtain ⟨n1, n2⟩ := none_ (show (upd S a o) p.1 = none from hn.sd.1)
    obtain ⟨o1, h3, h3'⟩ := hn.root
    refine ⟨hn.own, hn.fr, ⟨o1, by rw [upd_ne n1]; exact h3, RR.wi (T := T.wi (upd S a o)) h3'⟩, hn.len, fun f b u e1 e2 => ?_, ?_, fun f b u e1 e2 => ?_⟩
    · obtain ⟨k1, k2, u', k3, k4⟩ := hn.inn f b u e1 e2
      obtain ⟨q1, _⟩ := none_ (show (upd S a o) b = none from hn.sd.2 f b u e1 e2)
      exact ⟨k1, k2, u', by rw [upd_ne q1]; exact k3, RF.wi (T := T.wi (upd S a o)) k4⟩
    · show (upd S a o') p.1 = none
      rw [upd_ne n1]; exact n2
    · obtain ⟨q1, q2⟩ := none_ (show (upd S a o) b = none from hn.sd.2 f b u e1 e2)
      show (upd S a o') b = none
      rw [upd_ne q1]; exact q2
  · have e' : (upd S a o') b = some u := e
    by_cases h : b = a
    · subst h
      rw [upd_same] at e' ⊢
      exact e'
    · rw [upd_ne h] at e' ⊢
      exact R.sd b u (by show (upd S a o) b = some u; rw [upd_ne h]; exact e')
  · have e' : (upd S a o') b = some u := e
    by_cases h : b = a
    · subst h; exact fa
    · rw [upd_ne h] at e'
      exact R.sf b u (by show (upd S a o) b = some u; rw [upd_ne h]; exact e')
/-- what lay aside is data -/
theorem Rel.unside {a : Addr} {o : HO} (R : Rel (T.wi (upd T.side a o)) F ρ H m) (hn : T.side a = none) : Rel T (upd F a o) ρ H m := by
  obtain ⟨ow, hx⟩ := R.ex
  have ha : H a = some o := R.sd a o upd_same
  have fa : F a = none := R.sf a o upd_same
  have lF : Le F (upd F a o) := Le.rfl'.upd fa
  have none_ : ∀ {b : Addr}, (upd T.side a o) b = none → b ≠ a ∧ T.side b = none := fun {b} e => by
    by_cases h : b = a
    · subst h
      rw [upd_same] at e; cases e
    · rw [upd_ne h] at e
      exact ⟨h, e⟩
  refine ⟨fun b u e => ?_, R.len, ⟨ow, fun k p g e q => ?_⟩, fun b u e => ?_, fun b u e => ?_⟩
  · by_cases h : b = a
    · subst h
      rw [upd_same] at e
      rw [← e]; exact ha
    · rw [upd_ne h] at e
      exact R.sub b u e
  · have h0 := hx k p g e q
    obtain ⟨n1, n2⟩ := none_ (show (upd T.side a o) p.1 = none from h0.sd.1)
    obtain ⟨o1, h3, h3'⟩ := h0.root
    refine ⟨h0.own, by rw [upd_ne n1]; exact h0.fr, ⟨o1, h3, (RR.wi (T := T.wi (upd T.side a o)) (s := T.side) h3').monoF lF⟩, h0.len, fun f b u e1 e2 => ?_, n2, fun f b u e1 e2 => ?_⟩
    · obtain ⟨k1, k2, u', k3, k4⟩ := h0.inn f b u e1 e2
      obtain ⟨q1, _⟩ := none_ (show (upd T.side a o) b = none from h0.sd.2 f b u e1 e2)
      exact ⟨k1, by rw [upd_ne q1]; exact k2, u', k3, (RF.wi (T := T.wi (upd T.side a o)) (s := T.side) k4).mono lF⟩
    · exact (none_ (show (upd T.side a o) b = none from h0.sd.2 f b u e1 e2)).2
  · have h : b ≠ a := fun z => by rw [z, hn] at e; cases e
    exact R.sd b u (by show (upd T.side a o) b = some u; rw [upd_ne h]; exact e)
  · have h : b ≠ a := fun z => by rw [z, hn] at e; cases e
    rw [upd_ne h]
    exact R.sf b u (by show (upd T.side a o) b = some u; rw [upd_ne h]; exact e)
end

/-! ### targets -/
def gIs : List Nat → TGs
  | [] => gNil
  | i :: r => gCons (gName i) (gIs r)
def gTg (K : PySem.W.Frag) : Tg → TG
  | .n i => gName i
  | .t is => gTup K is.length (gIs is)
section
variable {T : Tx} {F H : Hp} {ρ : Ro}
theorem gIs_ok {α : Type} {P : V → α → Prop} {f : α → W} (hP : ∀ v a, P v a → RW T F ρ v (f a)) : ∀ {is : List Nat} {vs : List V} {xs : List α} {σ : L2.St} {ws : Sl} {Q : L2.St → Hp → Prop}, Paired P vs xs → xs.length = is.length → RSl T F ρ σ ws →
    (∀ σ2, RSl T F ρ σ2 ((is.zip xs).foldl (fun σ p => σ.set p.1 (some (f p.2))) ws) → σ2.length = σ.length → (∀ i, i ∉ is → σ2[i]? = σ[i]?) → Q σ2 H) → gIs is vs σ H Q
  | [], _, _, σ, ws, Q, .nil, _, S, q => ⟨rfl, q σ S rfl fun _ _ => rfl⟩
  | [], _, _, _, _, _, .cons _ _, hl, _, _ => by simp at hl
  | i :: is, _, _, _, _, _, .nil, hl, _, _ => by simp at hl
  | i :: is, _, _, σ, ws, Q, .cons h t, hl, S, q => ⟨_, _, rfl, gIs_ok hP t (by simpa using hl) (S.set i (hP _ _ h)) fun σ2 h2 h3 h4 => q σ2 h2 (by rw [h3]; simp) fun j hj => by
    rw [h4 j (fun z => hj (List.mem_cons_of_mem _ z)), List.getElem?_set_ne (fun z => hj (by rw [z]; exact List.mem_cons_self))]⟩
theorem rds_paired : ∀ {vs : List V} {xs : List D}, RDs T F vs xs → Paired (RD T F) vs xs
  | _, _, .nil => .nil
  | _, _, .cons h t => .cons h (rds_paired t)
theorem rks_paired {K : PySem.W.Frag} : ∀ {vs : List V} {xs : List D}, RKs K vs xs → Paired (RK K) vs xs
  | _, _, .nil => .nil
  | _, _, .cons h t => .cons h (rks_paired t)
/-- a target takes a value -/
theorem bind_g {K : PySem.W.Frag} (hK : K = T.K) (hl : Le F H) {σ : L2.St} {ws ws1 : Sl} {x : V} {w : W} {g : Tg} {Q : L2.St → Hp → Prop} (e : bindG ws w g = some ws1) (hx : RW T F ρ x w) (S : RSl T F ρ σ ws)
    (q : ∀ σ2, RSl T F ρ σ2 ws1 → σ2.length = σ.length → (∀ i, i ∉ tgs g → σ2[i]? = σ[i]?) → Q σ2 H) : gTg K g x σ H Q := by
  cases g with
  | n i =>
    cases e
    exact q _ (S.set i hx) (by simp) fun j hj => List.getElem?_set_ne (fun z => hj (by rw [z]; exact List.mem_cons_self))
  | t is =>
    unfold bindG at e
    dsimp only at e
    split at e
    · rename_i xs
      split at e
      · rename_i hlen
        cases e
        obtain ⟨a, vs, rfl, ha, h1⟩ := RD.seqT hx
        refine ⟨a, vs, rfl, .of (hl _ _ ha), by rw [h1.length]; exact hlen, gIs_ok (f := fun x => .d x) (fun _ _ h => h) (rds_paired h1) hlen S q⟩
      · cases e
    · rename_i xs
      split at e
      · rename_i hlen
        cases e
        cases hx with
        | @tup a vs _ ha h1 =>
          exact ⟨a, vs, rfl, by rw [hK]; exact ha H, by rw [h1.length]; exact hlen, gIs_ok (f := toK) (fun _ _ h => toK_rw rfl h) (rks_paired h1) hlen S q⟩
      · cases e
    · cases e
end

/-! ### items -/
structure Walk (T : Tx) (J : L2.It) (F : Hp) (ws : List W) : Prop where
  go : ∀ i F1 H, Le F F1 → Le F1 H → i < ws.length → J.go i H
  yld : ∀ i (s : Hp) F1 ρ1 H m x H' w, Rel (T.wi s) F1 ρ1 H m → Le F F1 → ws[i]? = some w → J.yld i H x H' → ∃ F2, Le F1 F2 ∧ Rel (T.wi s) F2 ρ1 H' m ∧ RW T F2 ρ1 x w
  stop : ∀ F1 H, Le F F1 → Le F1 H → J.stop ws.length H
def tI (T : Tx) (xt : Xt) (W' : WX) (ev : Sl → Mu → Res (List W)) : TI := fun σ H R => ∃ F ρ m ws, Rel T F ρ H m ∧ RSl T F ρ σ ws ∧
  After T xt F ρ (ev ws m) (fun F' ρ' H' _ us => ∀ J, Walk T J F' us → R J H') (fun c dx H' => W' c dx σ H')
theorem paired_get {α β : Type} {R : α → β → Prop} : ∀ {xs : List α} {ys : List β} {i : Nat} {y : β}, Paired R xs ys → ys[i]? = some y → ∃ x, xs[i]? = some x ∧ R x y
  | _, _, _, _, .nil, e => by simp at e
  | _, _, 0, _, .cons h _, e => by simp at e; subst e; exact ⟨_, rfl, h⟩
  | _, _, i + 1, y, .cons _ t, e => by
    obtain ⟨x, h1, h2⟩ := paired_get (i := i) (y := y) t (by simpa using e)
    exact ⟨x, by simpa using h1, h2⟩
theorem paired_map {α β γ : Type} {R : α → β → Prop} {S : α → γ → Prop} {f : β → γ} (h : ∀ a b, R a b → S a (f b)) : ∀ {xs : List α} {ys : List β}, Paired R xs ys → Paired S xs (ys.map f)
  | _, _, .nil => .nil
  | _, _, .cons a t => .cons (h _ _ a) (paired_map h t)
section
variable {T : Tx} {xt : Xt} {W' : WX} {X : Cx}
/-- an item of what stays: wherever more is tracked -/
def RI (T : Tx) (F : Hp) (x : V) (w : W) : Prop := ∀ ρ, RW T F ρ x w
theorem walk_tup {K : PySem.W.Frag} {F : Hp} {a : Addr} {vs : List V} {ws : List W} (hq : ∀ H, Le F H → SqT K H a vs) (hr : Paired (RI T F) vs ws) : Walk T (Itt K a) F ws := by
  have hl : vs.length = ws.length := PairedLen hr
  refine ⟨fun i F1 H l1 l2 hi => ⟨vs, vs[i]'(by omega), hq H (l1.trans l2), by simp⟩, fun i s F1 ρ1 H m x H' w R l1 ew y => ?_, fun F1 H l1 l2 => ⟨vs, hq H (l1.trans l2), by omega⟩⟩
  obtain ⟨rfl, y⟩ := y
  have hx := y vs (hq _ (l1.trans R.sub))
  obtain ⟨x', h1, h2⟩ := paired_get hr ew
  rw [hx] at h1
  cases h1
  exact ⟨F1, Le.rfl', R, (h2 ρ1).mono l1 .rfl'⟩
theorem walk_lst {K : PySem.W.Frag} {F : Hp} {a : Addr} {vs : List V} {ws : List W} (hq : ∀ H, Le F H → SqL K H a vs) (hr : Paired (RI T F) vs ws) : Walk T (Itl K a) F ws := by
  have hl : vs.length = ws.length := PairedLen hr
  refine ⟨fun i F1 H l1 l2 hi => ⟨vs, vs[i]'(by omega), hq H (l1.trans l2), by simp⟩, fun i s F1 ρ1 H m x H' w R l1 ew y => ?_, fun F1 H l1 l2 => ⟨vs, hq H (l1.trans l2), by omega⟩⟩
  obtain ⟨rfl, y⟩ := y
  have hx := y vs (hq _ (l1.trans R.sub))
  obtain ⟨x', h1, h2⟩ := paired_get hr ew
  rw [hx] at h1
  cases h1
  exact ⟨F1, Le.rfl', R, (h2 ρ1).mono l1 .rfl'⟩
theorem walk_str {F : Hp} {cs : List Nat} : Walk T (Its (strV cs)) F (cs.map fun c => .d (.str [c])) := by
  have hz : (strV cs).cps.size = cs.length := by simp [strV]
  refine ⟨fun i F1 H l1 l2 hi => ?_, fun i s F1 ρ1 H m x H' w R l1 ew y => ?_, fun F1 H l1 l2 => ?_⟩
  · show i < (strV cs).cps.size
    rw [hz]; simpa using hi
  · obtain ⟨rfl, c, hc, rfl⟩ := y
    rw [List.getElem?_map] at ew
    have hc' : cs[i]? = some c := by simpa [strV] using hc
    rw [hc'] at ew
    cases ew
    exact ⟨F1, Le.rfl', R, RD.str [c]⟩
  · show (strV cs).cps.size ≤ _
    rw [hz]; simp
theorem walk_rng {F : Hp} {lo : Int} {n : Nat} : Walk T (Itr lo n) F ((List.range n).map fun (k : Nat) => .d (.int (lo + k))) := by
  refine ⟨fun i F1 H l1 l2 hi => (by simpa using hi : i < n), fun i s F1 ρ1 H m x H' w R l1 ew y => ?_, fun F1 H l1 l2 => ?_⟩
  · obtain ⟨rfl, rfl⟩ := y
    rw [List.getElem?_map] at ew
    by_cases h : i < n
    · rw [List.getElem?_range h] at ew
      cases ew
      exact ⟨F1, Le.rfl', R, RD.int _⟩
    · rw [List.getElem?_eq_none (by simpa using h)] at ew
      cases ew
  · show n ≤ _
    simp
theorem ri_d {F : Hp} {vs : List V} {xs : List D} (h : RDs T F vs xs) : Paired (RI T F) vs (xs.map .d) := paired_map (R := RD T F) (fun _ _ h _ => h) (rds_paired h)
theorem ri_k {F : Hp} {vs : List V} {xs : List D} (h : RKs T.K vs xs) : Paired (RI T F) vs (xs.map toK) := paired_map (R := RK T.K) (fun _ _ h _ => toK_rw rfl h) (rks_paired h)
/-- what is walked: a list, a tuple, a text -/
theorem pi_seq {l tg : Expr} {ea : Sl → Mu → Res W} (hK : X.K = T.K) (hl : PE X l (tE T xt W' ea)) : PI X tg l (tI T xt W' fun ws m => (ea ws m).bind fun x m => optR (itemsD x) m) := by
  refine ⟨fun pins s σ H R I h => ?_⟩
  have h' : tE T xt W' ea σ H (fun x H1 => ∃ F ρ m w us, Rel T F ρ H1 m ∧ RW T F ρ x w ∧ itemsD w = some us ∧ ∀ J, Walk T J F us → R J H1) := by
    obtain ⟨F, ρ, m, ws, RR, S, A⟩ := h
    refine ⟨F, ρ, m, ws, RR, S, A.bind.imp (fun F1 ρ1 H1 m1 w r1 l1 g1 k v hv => ?_) fun _ _ _ z => z⟩
    cases e : itemsD w with
    | none => rw [e] at k; exact k.elim
    | some us =>
      rw [e] at k
      exact ⟨F1, ρ1, m1, w, us, r1, hv, e, k.ok r1⟩
  refine thn (hl.run pins s σ H _ I h') fun v s1 ⟨x, H1, I1, r1, F, ρ, m, w, us, RR, hx, e, q⟩ => ?_
  have tup : ∀ (a : Addr) (vs : List V), x = .ref a → (∀ H, Le F H → SqT X.K H a vs) → Paired (RI T F) vs us → wpAny (model X.prog X.w) X.A (pyIter v) (PIE X pins σ tg R) X.xe s1 := by
    intro a vs ex hq hr
    subst ex
    cases r1
    obtain ⟨its, rv, p, hz⟩ := I1.tuple (hq _ RR.sub)
    refine wpAny_pyIter_tuple (show s1.heap.IsTuple a its.toArray from p) ?_
    refine ⟨s1.heap.objs.size, [s1.heap.objs.size], _, _, H1, rfl, I1.kept (t' := s1.toks) fun b o e => Heap.get?_push_of_some _ e, turn_tuple a _, ⟨_, Heap.get?_push_size _ rfl, rfl, rfl⟩, fun b hb => ?_, q _ (walk_tup hq hr)⟩
    have e : b = s1.heap.objs.size := by simpa using hb
    subst e
    exact I1.fpOk (Nat.le_refl _) (I1.hok.fresh (Nat.le_refl _))
  unfold itemsD at e
  split at e
  · split at e
    · cases e
      cases hx with
      | tup a b => exact tup _ _ rfl (fun H _ => by rw [hK]; exact a H) (ri_k b)
    · cases e
  · cases e
    cases hx
    rename_i cs
    obtain ⟨t, rfl⟩ := r1
    have q2 := q _ (walk_str (cs := cs))
    cases hac : (strV cs).cps.all (· < 128)
    · exact wpAny_pyIter_wide hac (pi_one (tk := s1.toks) I1 _ (turn_str _ (strV cs) t "str_iterator" (.inr rfl)) ⟨_, Heap.get?_push_size _ rfl, rfl, rfl⟩ q2)
    · exact wpAny_pyIter_ascii hac (pi_one (tk := s1.toks) I1 _ (turn_str _ (strV cs) t "str_ascii_iterator" (.inl rfl)) ⟨_, Heap.get?_push_size _ rfl, rfl, rfl⟩ q2)
  · cases e
    obtain ⟨a, vs, rfl, ha, h1⟩ := RD.seqT hx
    exact tup a vs rfl (fun H l => .of (l _ _ ha)) (ri_d h1)
  · cases e
    obtain ⟨a, vs, rfl, ha, h1⟩ := RD.seqL hx
    cases r1
    have hq : ∀ H, Le F H → SqL X.K H a vs := fun H l => .inl (l.rd ha)
    obtain ⟨its, rv, p, hz⟩ := I1.list (hq _ RR.sub)
    refine wpAny_pyIter_list p.isList ?_
    refine ⟨s1.heap.objs.size, [s1.heap.objs.size], _, _, H1, rfl, I1.kept (t' := s1.toks) fun b o e => Heap.get?_push_of_some _ e, turn_list a _, ⟨_, Heap.get?_push_size _ rfl, rfl, rfl⟩, fun b hb => ?_, q _ (walk_lst hq (ri_d h1))⟩
    have e : b = s1.heap.objs.size := by simpa using hb
    subst e
    exact I1.fpOk (Nat.le_refl _) (I1.hok.fresh (Nat.le_refl _))
  · cases e
end
end Cn

/-! # comprehensions -/
namespace Cn
open PySem PySem.Spec PyProof.Rows L2
abbrev WF : WX := fun _ _ _ _ => False
def tEs (T : Tx) (xt : Xt) (W' : WX) (ev : Sl → Mu → Res W) : TE := fun σ H Q => ∃ s, tE (T.wi s) xt W' ev σ H Q
theorem pe_s {T : Tx} {xt : Xt} {W' : WX} {X : Cx} {e : Expr} {ev : Sl → Mu → Res W} (h : ∀ s, PE X e (tE (T.wi s) xt W' ev)) : PE X e (tEs T xt W' ev) := ⟨fun pins s σ H Q I ⟨sd, q⟩ => (h sd).run pins s σ H Q I q⟩
theorem pt_s {T : Tx} {xt : Xt} {W' : WX} {X : Cx} {e : Expr} {ev : Sl → Mu → Res W} (h : ∀ s, PT X e (tTest (tE (T.wi s) xt W' ev))) : PT X e (tTest (tEs T xt W' ev)) := ⟨fun pins s σ H Q I ⟨sd, q⟩ => (h sd).run pins s σ H Q I q⟩
theorem wipe_get {σ : L2.St} {i : Nat} : ∀ {vs : List Nat}, (wipe σ vs)[i]? = if i ∈ vs then (if i < σ.length then some none else none) else σ[i]?
  | [] => rfl
  | v :: vs => by
    unfold wipe
    have ih := wipe_get (σ := σ) (i := i) (vs := vs)
    by_cases h : v = i
    · subst h
      rw [if_pos List.mem_cons_self]
      by_cases hl : v < σ.length
      · rw [if_pos hl, List.getElem?_set_self (by rw [wipe_length]; exact hl)]
      · rw [if_neg hl, List.getElem?_eq_none (by rw [List.length_set, wipe_length]; omega)]
    · rw [List.getElem?_set_ne h, ih]
      by_cases hm : i ∈ vs
      · rw [if_pos hm, if_pos (List.mem_cons_of_mem _ hm)]
      · rw [if_neg hm, if_neg (fun z => (List.mem_cons.mp z).elim (fun e => h e.symm) hm)]
theorem wipe_wipe {σ σ2 : L2.St} {vs : List Nat} (hl : σ2.length = σ.length) (h : ∀ i, i ∉ vs → σ2[i]? = (wipe σ vs)[i]?) : wipe σ2 vs = wipe σ vs := by
  apply List.ext_getElem?
  intro i
  rw [wipe_get, wipe_get]
  by_cases hm : i ∈ vs
  · rw [if_pos hm, if_pos hm, hl]
  · rw [if_neg hm, if_neg hm, h i hm, wipe_get, if_neg hm]
section
variable {T : Tx} {F : Hp} {ρ : Ro}
theorem RSl.wipe {σ : L2.St} {ws : Sl} (r : RSl T F ρ σ ws) : ∀ vs : List Nat, RSl T F ρ (L2.wipe σ vs) (wipeS ws vs)
  | [] => r
  | v :: vs => by
    have ih := RSl.wipe r vs
    unfold L2.wipe wipeS
    refine ⟨by simpa using ih.1, fun i w e => ?_⟩
    rcases getElem?_set_of e with ⟨_, z⟩ | ⟨hn, e⟩
    · cases z
    · obtain ⟨u, h1, h2⟩ := ih.2 i w e
      exact ⟨u, by rw [List.getElem?_set_ne hn]; exact h1, h2⟩
end
section
variable {T : Tx} {xt : Xt} {W' : WX} {F : Hp} {ρ : Ro} {m : Mu} {k : Hp → Ro → Hp → Mu → W → Prop} {e : XK}
theorem lcGo_cons {ws : Sl} {g : Tg} {c el : Sl → Mu → Res W} {w : W} {r : List W} : lcGo ws g c el (w :: r) m = .stuck ∨ ∃ ws1 b m1, bindG ws w g = some ws1 ∧ c ws1 m = .ok (.d (.bl b)) m1 ∧
    ((b = true ∧ ∃ z m2, el ws1 m1 = .ok (.d z) m2 ∧ lcGo ws g c el (w :: r) m = (lcGo ws g c el r m2).bind fun zs m3 => .ok (z :: zs) m3) ∨ (b = false ∧ lcGo ws g c el (w :: r) m = lcGo ws g c el r m1)) := by
  rw [lcGo]
  cases e1 : bindG ws w g with
  | none => exact .inl rfl
  | some ws1 =>
    dsimp only
    cases e2 : c ws1 m with
    | ok b m1 =>
      dsimp only [Res.nox, Res.bind]
      split
      · cases e3 : el ws1 m1 with
        | ok y m2 =>
          dsimp only
          split
          · rename_i z
            exact .inr ⟨ws1, true, m1, rfl, e2, .inl ⟨rfl, z, m2, e3, rfl⟩⟩
          · exact .inl rfl
        | exc x m2 => exact .inl rfl
        | stuck => exact .inl rfl
      · exact .inr ⟨ws1, false, m1, rfl, e2, .inr ⟨rfl, rfl⟩⟩
      · exact .inl rfl
    | exc x m1 => exact .inl rfl
    | stuck => exact .inl rfl
theorem lcGo_step {ws : Sl} {g : Tg} {c el : Sl → Mu → Res W} {w : W} {r : List W} {f : List D → Mu → Res W} (A : After T xt F ρ ((lcGo ws g c el (w :: r) m).bind f) k e) :
    ∃ ws1 b m1, bindG ws w g = some ws1 ∧ c ws1 m = .ok (.d (.bl b)) m1 ∧ (b = true → ∃ z m2, el ws1 m1 = .ok (.d z) m2 ∧ After T xt F ρ ((lcGo ws g c el r m2).bind fun zs m3 => f (z :: zs) m3) k e) ∧
      (b = false → After T xt F ρ ((lcGo ws g c el r m1).bind f) k e) := by
  rcases lcGo_cons (ws := ws) (g := g) (c := c) (el := el) (w := w) (r := r) (m := m) with q | ⟨ws1, b, m1, e1, e2, ⟨rfl, z, m2, e3, q⟩ | ⟨rfl, q⟩⟩
  · rw [q] at A; exact A.elim
  · rw [q] at A
    refine ⟨ws1, true, m1, e1, e2, fun _ => ⟨z, m2, e3, ?_⟩, fun z => Bool.noConfusion z⟩
    cases e4 : lcGo ws g c el r m2 with
    | ok zs m3 => rw [e4] at A; exact A
    | exc x m3 => rw [e4] at A; exact A
    | stuck => rw [e4] at A; exact A
  · rw [q] at A
    exact ⟨ws1, false, m1, e1, e2, fun z => Bool.noConfusion z, fun _ => A⟩
theorem lcGo_noexc {ws : Sl} {g : Tg} {c el : Sl → Mu → Res W} : ∀ (us : List W) (m : Mu) {x : Xn} {m' : Mu}, lcGo ws g c el us m ≠ .exc x m'
  | [], m, x, m' => fun z => nomatch z
  | w :: r, m, x, m' => by
    intro h
    rcases lcGo_cons (ws := ws) (g := g) (c := c) (el := el) (w := w) (r := r) (m := m) with q | ⟨ws1, b, m1, e1, e2, ⟨rfl, z, m2, e3, q⟩ | ⟨rfl, q⟩⟩
    · rw [q] at h; cases h
    · rw [q] at h
      cases e4 : lcGo ws g c el r m2 with
      | ok zs m3 => rw [e4] at h; cases h
      | exc x m3 => exact lcGo_noexc r m2 e4
      | stuck => rw [e4] at h; cases h
    · rw [q] at h
      exact lcGo_noexc r m1 h
/-- what a test is to take -/
def TakesB (T : Tx) (c : Sl → Mu → Res W) (tt : TT) : Prop := ∀ s σ2 H2 (K : Bool → Hp → Prop) F ρ m ws b m2, Rel (T.wi s) F ρ H2 m → RSl (T.wi s) F ρ σ2 ws → c ws m = .ok (.d (.bl b)) m2 → (∀ F' ρ' H', Rel (T.wi s) F' ρ' H' m2 → Le F F' → RoLe ρ ρ' → K b H') → tt σ2 H2 K
theorem takesB_yes {C : Calls} : TakesB T (fun ws m => evE C ws m (.bl true)) tYes := fun s σ2 H2 K F ρ m ws b m2 R S e k => by
  simp only [evE] at e
  cases e
  exact k F ρ H2 R Le.rfl' .rfl'
theorem takesB_one {c : Sl → Mu → Res W} : TakesB T c (tTest (tEs T xt WF c)) := fun s σ2 H2 K F ρ m ws b m2 R S e k =>
  ⟨s, F, ρ, m, ws, R, S, by
    rw [e]
    intro F' ρ' H' R' l g v hv
    cases hv
    exact ⟨b, rfl, k F' ρ' H' R' l g⟩⟩
theorem s_lc {evI : Sl → Mu → Res (List W)} {g : Tg} {c el : Sl → Mu → Res W} {tt : TT} {K : PySem.W.Frag} {σ : L2.St} {H : Hp} {Q : VK} (hK : K = T.K) (htt : TakesB T c tt)
    (h : tE T xt W' (fun ws m => (evI ws m).bind fun us m => (lcGo (wipeS ws (tgs g)) g c el us m).bind fun xs m => guardR (decide (xs.length ≤ line)) (.ok (.d (.lst xs)) m)) σ H Q) :
    tLc (tI T xt W' evI) (gTg K g) tt (tEs T xt WF el) (tgs g) σ H Q := by
  obtain ⟨F, ρ, m, ws, R, S, A⟩ := h
  refine ⟨F, ρ, m, ws, R, S, A.bind.imp (fun F1 ρ1 H1 m1 us R1 l1 g1 A1 J hJ => ?_) fun _ _ _ z => z⟩
  intro Ad hD
  have S1 := (S.mono l1 g1).wipe (tgs g)
  refine ⟨fun i k H => k = us.length - i ∧ i ≤ us.length ∧ ∃ F2 ρ2 m2 acc xs, Rel (T.wi (upd T.side Ad (.lst acc))) F2 ρ2 H m2 ∧ Le F1 F2 ∧ RoLe ρ1 ρ2 ∧ RDs T F2 acc xs ∧ xs.length ≤ i ∧
    After T xt F2 ρ2 ((lcGo (wipeS ws (tgs g)) g c el (us.drop i) m2).bind fun zs m3 => guardR (decide ((xs ++ zs).length ≤ line)) (Res.ok (W.d (D.lst (xs ++ zs))) m3)) (KV1 T Q) (fun c dx H' => W' c dx σ H'),
    ⟨us.length, by simp, Nat.zero_le _, F1, ρ1, m1, [], [], R1.aside hD, Le.rfl', .rfl', .nil, Nat.le_refl _, by simpa using A1⟩, ?_⟩
  rintro i k H2 ⟨rfl, hi, F2, ρ2, m2, acc, xs, R2, l2, g2, hacc, hxi, A2⟩
  have sideD : T.side Ad = none := R1.sd.none hD
  by_cases hlt : i < us.length
  · have hd : us.drop i = us[i] :: us.drop (i + 1) := by rw [List.drop_eq_getElem_cons hlt]
    rw [hd] at A2
    obtain ⟨ws1, b, m3, e1, e2, e3, e4⟩ := lcGo_step A2
    refine .inr ⟨hJ.go i F2 H2 l2 R2.sub hlt, fun H' => ∃ F3 ρ3 m4 acc xs, Rel (T.wi (upd T.side Ad (.lst acc))) F3 ρ3 H' m4 ∧ Le F1 F3 ∧ RoLe ρ1 ρ3 ∧ RDs T F3 acc xs ∧ xs.length ≤ i + 1 ∧
      After T xt F3 ρ3 ((lcGo (wipeS ws (tgs g)) g c el (us.drop (i + 1)) m4).bind fun zs m3 => guardR (decide ((xs ++ zs).length ≤ line)) (.ok (.d (.lst (xs ++ zs))) m3)) (KV1 T Q) (fun c dx H' => W' c dx σ H'),
      fun H' hH' => ⟨us.length - (i + 1), by omega, rfl, hlt, hH'⟩, fun x H3 y => ?_⟩
    obtain ⟨F3, l3, R3, hx⟩ := hJ.yld i _ F2 ρ2 H2 m2 x H3 us[i] R2 l2 (by simp) y
    refine bind_g (T := T) (F := F3) (ρ := ρ2) hK R3.sub e1 hx (S1.mono (l2.trans l3) g2) fun σ2 S2 hlen hout => ?_
    refine ⟨wipe_wipe (by rw [hlen, wipe_length]) hout, ?_⟩
    refine htt _ σ2 H3 _ F3 ρ2 m2 ws1 b m3 R3 S2.wi e2 fun F4 ρ4 H4 R4 l4 g4 => ?_
    cases b with
    | false =>
      simp only [Bool.false_eq_true, if_false]
      exact ⟨F4, ρ4, m3, acc, xs, R4, (l2.trans l3).trans l4, g2.trans g4, hacc.mono (l3.trans l4), Nat.le_succ_of_le hxi, (e4 rfl).mono (l3.trans l4) g4⟩
    | true =>
      simp only [if_true]
      obtain ⟨z, m4, e5, A3⟩ := e3 rfl
      refine ⟨_, F4, ρ4, m3, ws1, R4, (S2.mono l4 g4).wi, ?_⟩
      rw [e5]
      intro F5 ρ5 H5 R5 l5 g5 v hv
      have lF := (l3.trans l4).trans l5
      have A4 := A3.mono lF (g4.trans g5)
      refine ⟨acc, R5.sd Ad _ upd_same, ?_, F5, ρ5, m4, acc ++ [v], xs ++ [z], R5.reside, l2.trans lF, g2.trans (g4.trans g5), (hacc.mono lF).append (.cons (RD.wi (T := T.wi (upd T.side Ad (.lst acc))) (s := T.side) hv) .nil), by simp; omega, ?_⟩
      · -- it fits
        rw [hacc.length]
        cases e6 : lcGo (wipeS ws (tgs g)) g c el (us.drop (i + 1)) m4 with
        | ok zs m5 =>
          rw [e6] at A4
          have := (guard_ok A4).1
          have := of_decide_eq_true this
          have hz : sizeLine = line := rfl
          simp at this
          omega
        | exc x m5 =>
          exact absurd e6 (lcGo_noexc _ _)
        | stuck => rw [e6] at A4; exact A4.elim
      · simpa using A4
  · have hie : i = us.length := by omega
    subst hie
    rw [List.drop_length] at A2
    refine .inl ⟨hJ.stop F2 H2 l2 R2.sub, ?_⟩
    unfold lcGo at A2
    obtain ⟨_, A3⟩ := guard_ok A2
    rw [List.append_nil] at A3
    have R3 := R2.unside sideD
    have fD : F2 Ad = none := R2.sf Ad _ upd_same
    have lF : Le F2 (upd F2 Ad (.lst acc)) := Le.rfl'.upd fD
    exact A3 _ ρ2 H2 R3 lF .rfl' _ (RD.lst (.inl upd_same) (hacc.mono lF))
end
end Cn

/-! # statements -/
namespace Cn
open PySem PySem.Spec PyProof.Rows L2
section
variable {T : Tx} {xt : Xt} {W' : WX} {D : Ends} {F F' : Hp} {ρ ρ' : Ro} {σ : L2.St} {r : SR}
theorem AfterS.mono (h : AfterS T xt W' D F ρ σ r) (l : Le F F') (g : RoLe ρ ρ') : AfterS T xt W' D F' ρ' σ r := by
  cases r with
  | next ws m => exact fun F1 ρ1 H1 σ1 R l1 g1 => h F1 ρ1 H1 σ1 R (l.trans l1) (g.trans g1)
  | ret w ws m => exact fun F1 ρ1 H1 v R l1 g1 => h F1 ρ1 H1 v R (l.trans l1) (g.trans g1)
  | exc x ws m => exact fun F1 ρ1 H1 σ1 c dx R l1 g1 => h F1 ρ1 H1 σ1 c dx R (l.trans l1) (g.trans g1)
  | stuck => exact h
theorem AfterS.imp {D' : Ends} (h : AfterS T xt W' D F ρ σ r) (hn : ∀ σ H, D.nx σ H → D'.nx σ H) (hr : D.rt = D'.rt) : AfterS T xt W' D' F ρ σ r := by
  cases r with
  | next ws m => exact fun F1 ρ1 H1 σ1 R l1 g1 S1 => hn _ _ (h F1 ρ1 H1 σ1 R l1 g1 S1)
  | ret w ws m => exact fun F1 ρ1 H1 v R l1 g1 hv => by rw [← hr]; exact h F1 ρ1 H1 v R l1 g1 hv
  | exc x ws m => exact h
  | stuck => exact h
theorem AfterS.st {σ' : L2.St} (h : AfterS T xt W' D F ρ σ r) : AfterS T xt W' D F ρ σ' r := by
  cases r with
  | next ws m => exact h
  | ret w ws m => exact h
  | exc x ws m => exact h
  | stuck => exact h
theorem AfterS.toS {α : Type} {q : Res α} {ws : Sl} {f : α → Mu → SR} (h : AfterS T xt W' D F ρ σ (q.toS ws f)) (S : RSl T F ρ σ ws) :
    After T xt F ρ q (fun F' ρ' _ m a => AfterS T xt W' D F' ρ' σ (f a m)) (fun c dx H' => W' c dx σ H') := by
  cases q with
  | ok a m => exact fun F1 ρ1 H1 R l1 g1 => AfterS.mono (r := f a m) h l1 g1
  | exc x m => exact fun F1 ρ1 H1 c dx R l1 g1 rx => h F1 ρ1 H1 σ c dx R l1 g1 (S.mono l1 g1) rx
  | stuck => exact h
theorem AfterS.then {f : Sl → Mu → SR} (h : AfterS T xt W' D F ρ σ (r.then f)) :
    AfterS T xt W' { D with nx := fun σ' H' => ∃ F' ρ' m' ws', Rel T F' ρ' H' m' ∧ RSl T F' ρ' σ' ws' ∧ Le F F' ∧ AfterS T xt W' D F' ρ' σ' (f ws' m') } F ρ σ r := by
  cases r with
  | next ws m => exact fun F1 ρ1 H1 σ1 R l1 g1 S1 => ⟨F1, ρ1, m, ws, R, S1, l1, (AfterS.mono (σ := σ) (r := f ws m) h l1 g1).st⟩
  | ret w ws m => exact h
  | exc x ws m => exact h
  | stuck => exact h
theorem tst_after {q : Res W} {k : Hp → Ro → Hp → Mu → Bool → Prop} {e : XK} (h : After T xt F ρ (tst q) k e) : After T xt F ρ q (fun F' ρ' H' m' w => ∀ v, RW T F' ρ' v w → ∃ b, v = .bl b ∧ (Rel T F' ρ' H' m' → k F' ρ' H' m' b)) e := by
  unfold tst at h
  refine (After.bind h).imp (fun F1 ρ1 H1 m1 w R1 l1 g1 k1 v hv => ?_) fun _ _ _ z => z
  split at k1
  · cases hv
    exact ⟨_, rfl, fun R => k1 F1 ρ1 H1 R Le.rfl' .rfl'⟩
  · exact k1.elim
end
section
variable {T : Tx} {xt : Xt} {W' : WX} {C : Calls} {D : Ends} {σ : L2.St} {H : Hp} {K : PySem.W.Frag}
theorem q_nil (h : tS T xt W' (fun ws m => evSs C ws m .nil) D σ H) : tNext D σ H := by
  obtain ⟨F, ρ, m, ws, R, S, A⟩ := h
  simp only [evSs] at A
  exact A F ρ H σ R Le.rfl' .rfl' S
theorem q_cons {s : S} {r : Ss} (h : tS T xt W' (fun ws m => evSs C ws m (.cons s r)) D σ H) : tSeq (tS T xt W' fun ws m => evS C ws m s) (tS T xt W' fun ws m => evSs C ws m r) D σ H := by
  obtain ⟨F, ρ, m, ws, R, S, A⟩ := h
  simp only [evSs] at A
  exact ⟨F, ρ, m, ws, R, S, A.then.imp (fun σ' H' ⟨F1, ρ1, m1, ws1, R1, S1, _, A1⟩ => ⟨F1, ρ1, m1, ws1, R1, S1, A1⟩) rfl⟩
theorem q_asg {i : Nat} {e : E} (h : tS T xt W' (fun ws m => evS C ws m (.asg i e)) D σ H) : tAsg (tE T xt W' fun ws m => evE C ws m e) (gName i) D σ H := by
  obtain ⟨F, ρ, m, ws, R, S, A⟩ := h
  simp only [evS] at A
  exact ⟨F, ρ, m, ws, R, S, (A.toS S).imp (fun F1 ρ1 H1 m1 w R1 l1 g1 k v hv => k F1 ρ1 H1 _ R1 Le.rfl' .rfl' ((S.mono l1 g1).set i hv)) fun _ _ _ z => z⟩
theorem q_asgT {is : List Nat} {e : E} (hK : K = T.K) (h : tS T xt W' (fun ws m => evS C ws m (.asgT is e)) D σ H) : tAsg (tE T xt W' fun ws m => evE C ws m e) (gTg K (.t is)) D σ H := by
  obtain ⟨F, ρ, m, ws, R, S, A⟩ := h
  simp only [evS] at A
  refine ⟨F, ρ, m, ws, R, S, (A.toS S).imp (fun F1 ρ1 H1 m1 w R1 l1 g1 k v hv => ?_) fun _ _ _ z => z⟩
  split at k
  · rename_i ws1 e1
    exact bind_g hK R1.sub e1 hv (S.mono l1 g1) fun σ2 S2 _ _ => k F1 ρ1 H1 σ2 R1 Le.rfl' .rfl' S2
  · exact k.elim
theorem q_ex {e : E} (h : tS T xt W' (fun ws m => evS C ws m (.ex e)) D σ H) : tDrop (tE T xt W' fun ws m => evE C ws m e) D σ H := by
  obtain ⟨F, ρ, m, ws, R, S, A⟩ := h
  simp only [evS] at A
  exact ⟨F, ρ, m, ws, R, S, (A.toS S).imp (fun F1 ρ1 H1 m1 w R1 l1 g1 k v hv => k F1 ρ1 H1 σ R1 Le.rfl' .rfl' (S.mono l1 g1)) fun _ _ _ z => z⟩
theorem q_ret {e : E} (h : tS T xt W' (fun ws m => evS C ws m (.ret e)) D σ H) : tRet (tE T xt W' fun ws m => evE C ws m e) D σ H := by
  obtain ⟨F, ρ, m, ws, R, S, A⟩ := h
  simp only [evS] at A
  exact ⟨F, ρ, m, ws, R, S, (A.toS S).imp (fun F1 ρ1 H1 m1 w R1 l1 g1 k v hv => k F1 ρ1 H1 v R1 Le.rfl' .rfl' hv) fun _ _ _ z => z⟩
theorem q_if {c : E} {a b : Ss} (h : tS T xt W' (fun ws m => evS C ws m (.if_ c a b)) D σ H) : tIfS (tTest (tE T xt W' fun ws m => evE C ws m c)) (tS T xt W' fun ws m => evSs C ws m a) (tS T xt W' fun ws m => evSs C ws m b) D σ H := by
  obtain ⟨F, ρ, m, ws, R, S, A⟩ := h
  simp only [evS] at A
  refine ⟨F, ρ, m, ws, R, S, (tst_after (A.toS S)).imp (fun F1 ρ1 H1 m1 w R1 l1 g1 k v hv => ?_) fun _ _ _ z => z⟩
  obtain ⟨b, rfl, k⟩ := k v hv
  have k := k R1
  refine ⟨b, rfl, ?_⟩
  cases b with
  | true => exact ⟨F1, ρ1, m1, ws, R1, S.mono l1 g1, k⟩
  | false => exact ⟨F1, ρ1, m1, ws, R1, S.mono l1 g1, k⟩
theorem q_fzs {i : Nat} {r : Ss} (h : tS T xt W' (fun ws m => evSs C ws m (.cons (.fzs i) r)) D σ H) : tS T xt W' (fun ws m => evSs C ws m r) D σ H := by
  obtain ⟨F, ρ, m, ws, R, S, A⟩ := h
  simp only [evSs, evS] at A
  cases e1 : ws[i]? with
  | none => rw [e1] at A; exact A.elim
  | some o =>
    cases o with
    | none => rw [e1] at A; exact A.elim
    | some w =>
      rw [e1] at A
      dsimp only at A
      cases e2 : fzR m w with
      | ok x m' =>
        rw [e2] at A
        obtain ⟨v, e3, hv⟩ := S.2 i w e1
        obtain ⟨F', l, R', hx⟩ := R.freeze hv e2
        have S' := (S.mono l .rfl').set (ρ := ρ) i (w := .d x) hx
        have e4 : σ.set i (some v) = σ := by
          apply List.ext_getElem?
          intro j
          by_cases h : i = j
          · subst h
            rw [List.getElem?_set_self (List.getElem?_eq_some_iff.mp e3).1, e3]
          · rw [List.getElem?_set_ne h]
        rw [e4] at S'
        exact ⟨F', ρ, m', _, R', S', AfterS.mono (r := evSs C _ m' r) A l .rfl'⟩
      | exc x m' =>
        rcases fzR_cases (m := m) (w := w) with q | ⟨_, _, q⟩ | ⟨_, _, _, _, _, _, q⟩ | ⟨_, _, _, _, _, _, _, q⟩ <;> (rw [q] at e2; cases e2)
      | stuck => rw [e2] at A; exact A.elim
theorem whGo_succ (c : Sl → Mu → Res Bool) (b : Sl → Mu → SR) (k : Nat) (ws : Sl) (m : Mu) : whGo c b (k + 1) ws m = (c ws m).toS ws fun t m1 => if t then (b ws m1).then fun σ2 m2 => whGo c b k σ2 m2 else .next ws m1 := rfl
theorem q_wh {c : E} {b : Ss} (h : tS T xt W' (fun ws m => evS C ws m (.wh c b)) D σ H) : tWhile (tTest (tE T xt W' fun ws m => evE C ws m c)) (tS T xt W' fun ws m => evSs C ws m b) D σ H := by
  obtain ⟨F, ρ, m, ws, R, S, A⟩ := h
  simp only [evS] at A
  refine ⟨fun k σ H => ∃ F ρ m ws, Rel T F ρ H m ∧ RSl T F ρ σ ws ∧ AfterS T xt W' D F ρ σ (whGo (fun ws m => tst (evE C ws m c)) (fun ws m => evSs C ws m b) k ws m), ⟨turns, F, ρ, m, ws, R, S, A⟩, ?_⟩
  rintro k σ H ⟨F, ρ, m, ws, R, S, A⟩
  cases k with
  | zero => exact A.elim
  | succ k =>
    rw [whGo_succ] at A
    refine ⟨F, ρ, m, ws, R, S, (tst_after (A.toS S)).imp (fun F1 ρ1 H1 m1 w R1 l1 g1 k2 v hv => ?_) fun _ _ _ z => z⟩
    obtain ⟨t, rfl, k2⟩ := k2 v hv
    have k2 := k2 R1
    refine ⟨t, rfl, ?_⟩
    cases t with
    | false => exact k2 F1 ρ1 H1 σ R1 Le.rfl' .rfl' (S.mono l1 g1)
    | true =>
      refine ⟨_, fun σ' H' hn => ⟨k, Nat.lt_succ_self k, hn⟩, F1, ρ1, m1, ws, R1, S.mono l1 g1, ?_⟩
      exact (show AfterS T xt W' D F1 ρ1 σ ((evSs C ws m1 b).then fun σ2 m2 => whGo _ _ k σ2 m2) from k2).then.imp (fun σ' H' ⟨F1, ρ1, m1, ws1, R1, S1, _, A1⟩ => ⟨F1, ρ1, m1, ws1, R1, S1, A1⟩) rfl
theorem q_for {g : Tg} {it : It} {b : Ss} (hK : K = T.K) (h : tS T xt W' (fun ws m => evS C ws m (.for_ g it b)) D σ H) :
    tFor (tI T xt W' fun ws m => evIt C ws m it) (gTg K g) (tS T xt W' fun ws m => evSs C ws m b) D σ H := by
  obtain ⟨F, ρ, m, ws, R, S, A⟩ := h
  simp only [evS] at A
  refine ⟨F, ρ, m, ws, R, S, (A.toS S).imp (fun F1 ρ1 H1 m1 us R1 l1 g1 A1 J hJ => ?_) fun _ _ _ z => z⟩
  refine ⟨fun i k σ H => k = us.length - i ∧ i ≤ us.length ∧ ∃ F2 ρ2 m2 ws2, Rel T F2 ρ2 H m2 ∧ Le F1 F2 ∧ RSl T F2 ρ2 σ ws2 ∧ AfterS T xt W' D F2 ρ2 σ (forGo g (fun ws m => evSs C ws m b) (us.drop i) ws2 m2),
    ⟨us.length, by simp, Nat.zero_le _, F1, ρ1, m1, ws, R1, Le.rfl', S.mono l1 g1, by simpa using A1⟩, ?_⟩
  rintro i k σ2 H2 ⟨rfl, hi, F2, ρ2, m2, ws2, R2, l2, S2, A2⟩
  by_cases hlt : i < us.length
  · have hd : us.drop i = us[i] :: us.drop (i + 1) := by rw [List.drop_eq_getElem_cons hlt]
    rw [hd] at A2
    unfold forGo at A2
    refine .inr ⟨hJ.go i F2 H2 l2 R2.sub hlt, fun σ' H' => ∃ F3 ρ3 m3 ws3, Rel T F3 ρ3 H' m3 ∧ Le F1 F3 ∧ RSl T F3 ρ3 σ' ws3 ∧ AfterS T xt W' D F3 ρ3 σ' (forGo g (fun ws m => evSs C ws m b) (us.drop (i + 1)) ws3 m3),
      fun σ' H' hn => ⟨us.length - (i + 1), by omega, rfl, hlt, hn⟩, fun x H3 y => ?_⟩
    obtain ⟨F3, l3, R3, hx⟩ := hJ.yld i T.side F2 ρ2 H2 m2 x H3 us[i] R2 l2 (by simp) y
    split at A2
    · rename_i ws3 e1
      refine bind_g hK R3.sub e1 hx (S2.mono l3 .rfl') fun σ4 S4 _ _ => ?_
      refine ⟨F3, ρ2, m2, ws3, R3, S4, ?_⟩
      have A3 := AfterS.mono (σ := σ2) (r := (evSs C ws3 m2 b).then fun σ2 m2 => forGo g (fun ws m => evSs C ws m b) (us.drop (i + 1)) σ2 m2) A2 l3 .rfl'
      exact A3.then.imp (fun σ' H' ⟨F6, ρ6, m6, ws6, R6, S6, l6, A6⟩ => ⟨F6, ρ6, m6, ws6, R6, (l2.trans l3).trans l6, S6, A6⟩) rfl
    · exact A2.elim
  · have hie : i = us.length := by omega
    subst hie
    rw [List.drop_length] at A2
    exact .inl ⟨hJ.stop F2 H2 l2 R2.sub, A2 F2 ρ2 H2 σ2 R2 Le.rfl' .rfl' S2⟩
/-! ### a def's end -/
theorem end_ok {F : Hp} {ρ : Ro} {m : Mu} {r : SR} {Q : VK} {e : XK} (hm : ρ.length = m.length) (h : After T xt F ρ (endS m.length r) (KV1 T Q) e) :
    AfterS T xt (fun c dx _ H => e c dx H) { nx := fun _ H' => Q .non H', rt := Q, bk := D.bk, ct := D.ct } F ρ σ r := by
  have tk : ∀ {F' ρ' H' m'}, Rel T F' ρ' H' m' → RoLe ρ ρ' → Rel T F' (ρ'.take m.length) H' (m'.take m.length) ∧ RoLe ρ (ρ'.take m.length) := fun {F' ρ' H' m'} R g => by
    refine ⟨R.take _, ?_, fun n p e => ?_⟩
    · rw [List.length_take]; have := g.1; omega
    · obtain ⟨as, e1⟩ := g.2 n p e
      have := (List.getElem?_eq_some_iff.mp e).1
      exact ⟨as, by rw [List.getElem?_take, if_pos (by omega), e1]⟩
  cases r with
  | next ws m' =>
    intro F' ρ' H' σ' R l g S
    obtain ⟨R2, g2⟩ := tk R g
    exact h F' _ H' R2 l g2 _ .non
  | ret w ws m' =>
    intro F' ρ' H' v R l g hv
    obtain ⟨R2, g2⟩ := tk R g
    cases w with
    | d x => exact h F' _ H' R2 l g2 _ hv
    | kt x => exact h F' _ H' R2 l g2 _ hv
    | h k =>
      have h' : After T xt F ρ (if k < m.length then .ok (.h k) (m'.take m.length) else .stuck) (KV1 T Q) e := h
      by_cases hk : k < m.length
      · rw [if_pos hk] at h'
        obtain ⟨p, e1, rfl⟩ := hv
        exact h' F' _ H' R2 l g2 _ ⟨p, by rw [List.getElem?_take, if_pos hk]; exact e1, rfl⟩
      · rw [if_neg hk] at h'; exact h'.elim
    | hi n f => exact h.elim
    | clo l cap => exact h.elim
  | exc x ws m' =>
    intro F' ρ' H' σ' c dx R l g S rx
    obtain ⟨R2, g2⟩ := tk R g
    exact h F' _ H' c dx R2 l g2 rx
  | stuck => exact h
end
end Cn

/-! # the text against the language: expressions -/
namespace Cn
open PySem PySem.Spec PyProof.Rows L2
mutual
def D.same : D → D → Bool
  | .non, b => (match b with | .non => true | _ => false)
  | .bl a, b => (match b with | .bl c => a == c | _ => false)
  | .int i, b => (match b with | .int j => decide (i = j) | _ => false)
  | .str x, b => (match b with | .str y => decide (x = y) | _ => false)
  | .tup xs, b => (match b with | .tup ys => D.sames xs ys | _ => false)
  | .lst _, _ => false
  | .ins _ _, _ => false
  | .dK _ _, _ => false
  | .dT _ _, _ => false
def D.sames : List D → List D → Bool
  | [], ys => ys.isEmpty
  | x :: r, ys => (match ys with | [] => false | y :: s => D.same x y && D.sames r s)
end
mutual
theorem same_eq : ∀ (x y : D), x.same y = true → x = y
  | .non, y, h => by cases y <;> first | rfl | (unfold D.same at h; cases h)
  | .bl a, y, h => by
    cases y <;> unfold D.same at h <;> first | (cases h; done) | skip
    rw [eq_of_beq h]
  | .int i, y, h => by
    cases y <;> unfold D.same at h <;> first | (cases h; done) | skip
    rw [of_decide_eq_true h]
  | .str x, y, h => by
    cases y <;> unfold D.same at h <;> first | (cases h; done) | skip
    rw [of_decide_eq_true h]
  | .tup xs, y, h => by
    cases y <;> unfold D.same at h <;> first | (cases h; done) | skip
    rw [sames_eq _ _ h]
  | .lst _, _, h => by unfold D.same at h; cases h
  | .ins _ _, _, h => by unfold D.same at h; cases h
  | .dK _ _, _, h => by unfold D.same at h; cases h
  | .dT _ _, _, h => by unfold D.same at h; cases h
theorem sames_eq : ∀ (xs ys : List D), D.sames xs ys = true → xs = ys
  | [], ys, h => by cases ys <;> first | rfl | (unfold D.sames at h; cases h)
  | x :: r, ys, h => by
    cases ys with
    | nil => unfold D.sames at h; cases h
    | cons y s =>
      unfold D.sames at h
      obtain ⟨h1, h2⟩ := dec_and h
      rw [same_eq _ _ h1, sames_eq _ _ h2]
end

/-- what the module's names stand for -/
structure Tb where
  dn : List (Option Str)
  nums : List (Str × Int)
  tups : List (Str × D)
  free : List Str
  dics : List (Str × List (Int × Int))
  /-- the exceptions' names, their fields -/
  xn : List Str
  xf : List (List Str)
  /-- the defs whose exceptions have no context -/
  md : List Bool
  /-- the module's texts, its dicts by texts -/
  txts : List (Str × List Nat) := []
  dicS : List (Str × List (List Nat × Int)) := []
  /-- the classes' names, their fields; a method's class and name -/
  cn : List (Option Str) := []
  cf : List (List Str) := []
  mt : List (Option (Nat × Str)) := []
structure Gam where
  tb : Tb
  N : List Str
  sc : Scope
  fa : Bool
  /-- only such defs may be called -/
  n : Bool
  /-- not within a try -/
  t : Bool
def okN (y : Str) : Bool := !(y == ("__debug__" : Str)) && !(y == ("__classdict__" : Str)) && decide (y ≠ ("__name__" : Str))
def Gam.vis (Γ : Gam) (y : Str) : Bool := match Γ.sc.names.lookup y with
  | some .local => true
  | some .cell => true
  | some .free => true
  | _ => false
def Gam.gl (Γ : Gam) (y : Str) : Bool := match Γ.sc.names.lookup y with
  | some .globalImplicit => true
  | _ => false
def Gam.tgt (Γ : Gam) (y : Str) : Bool := match Γ.sc.names.lookup y with
  | some .local => true
  | some .cell => Γ.fa
  | _ => false
/-- a built-in's name -/
def Gam.bi (Γ : Gam) (y x : Str) : Bool := decide (y = x) && Γ.gl y && Γ.tb.free.contains y && okN y
def nst : Expr → Bool
  | .Starred _ _ => false
  | _ => true
def nsl : Expr → Bool
  | .Slice _ _ _ _ => false
  | _ => true
def nset : Expr → Bool
  | .Set _ _ _ => false
  | _ => true
def nsup : Expr → Bool
  | .Call _ _ _ _ => false
  | _ => true
def nt : Expr → Bool
  | .UnaryOp .Not _ _ => false
  | .BoolOp _ _ _ => false
  | .IfExp _ _ _ _ => false
  | .Compare _ _ _ _ => false
  | _ => true
def nif : Expr → Bool
  | .IfExp _ _ _ _ => false
  | _ => true
def boP : Bo → Operator
  | .add => .Add
  | .sub => .Sub
  | .mul => .Mult
  | .fdiv => .FloorDiv
  | .mod => .Mod
def biN : Bi → Str
  | .len => "len"
  | .lenU => "len"
  | .ord => "ord"
  | .tuple => "tuple"
  | .any => "any"
  | .all => "all"
  | .str => "str"
  | .int => "int"
  | .max => "max"
def tyN : Ty → Str
  | .list => "list"
  | .tuple => "tuple"
  | .int => "int"
  | .str => "str"
def nbI : E → Bool
  | .int _ => true
  | .gi _ _ => true
  | .var _ => true
  | _ => false
def Gam.cls (Γ : Gam) (c : Nat) : Bool := match Γ.tb.cn[c]? with
  | some (some _) => true
  | _ => false
def Gam.fld (Γ : Gam) (c f : Nat) (n : Str) : Bool := Γ.cls c && decide ((Γ.tb.cf.getD c [])[f]? = some n)
def Gam.mth (Γ : Gam) (c f : Nat) (n : Str) : Bool := Γ.cls c && decide (Γ.tb.mt[f]? = some (some (c, n))) && !((Γ.tb.cf.getD c []).contains n) && (!Γ.n || Γ.tb.md.getD f false)
def Gam.mkr (Γ : Gam) (c f : Nat) (y : Str) : Bool := decide (Γ.tb.cn[c]? = some (some y)) && decide (Γ.tb.mt[f]? = some (some (c, ("__init__" : Str)))) && (!Γ.n || Γ.tb.md.getD f false) && Γ.gl y && okN y
def blkSc (scope sc : Scope) : Scope :=
  { scope with names := scope.names.map fun (n, k) => if (k == .free && sc.kind == .function && sc.names.lookup n == some .cell) then (n, .cell) else (n, k) }
def Gam.blk (Γ : Gam) (scope : Scope) : Gam := { Γ with sc := blkSc scope Γ.sc, fa := false }
def mNames (Γ : Gam) : List Nat → List Expr → Bool
  | [], es => es.isEmpty
  | i :: r, es => (match es with
    | .Name y _ :: s => decide (Γ.N[i]? = some y) && Γ.tgt y && mNames Γ r s
    | _ => false)
def mTg (Γ : Gam) (g : Tg) (pe : Expr) : Bool := match g with
  | .n i => (match pe with | .Name y _ => decide (Γ.N[i]? = some y) && Γ.tgt y | _ => false)
  | .t is => (match pe with | .Tuple es _ _ => mNames Γ is es | _ => false)
def isBT : E → Bool
  | .bl true => true
  | _ => false
theorem isBT_eq {c : E} (h : isBT c = true) : c = .bl true := by
  unfold isBT at h
  split at h
  · rfl
  · cases h
def ownOf (N : List Str) (is : List Nat) : List (Str × Nat) := is.map fun i => (N.getD i Str.empty, i)
mutual
def mE (Γ : Gam) : E → Expr → Bool
  | .var i => fun pe => match pe with | .Name y _ => decide (Γ.N[i]? = some y) && Γ.vis y && okN y | _ => false
  | .int i => fun pe => match pe with
    | .Constant (.int j) _ _ => decide (i = j)
    | .UnaryOp .USub (.Constant (.int j) _ _) _ => decide (i = -j)
    | _ => false
  | .str cs => fun pe => match pe with | .Constant (.str x) _ _ => decide (strV cs = x) | _ => false
  | .bl b => fun pe => match pe with | .Constant (.bool c) _ _ => b == c | _ => false
  | .non => fun pe => match pe with | .Constant .none _ _ => true | _ => false
  | .gi _ i => fun pe => match pe with | .Name y _ => decide (Γ.tb.nums.lookup y = some i) && Γ.gl y && okN y | _ => false
  | .gt _ t => fun pe => match pe with | .Name y _ => Γ.tb.tups.any (fun p => p.1 == y && p.2.same t) && Γ.gl y && okN y | _ => false
  | .fz e => fun pe => mE Γ e pe
  | .bin o a b => fun pe => match pe with | .BinOp x op y _ => decide (op = boP o) && mE Γ a x && mE Γ b y | _ => false
  | .mulM a b => fun pe => match pe with | .BinOp x op y _ => decide (op = .Mult) && mE Γ a x && mE Γ b y | _ => false
  | .cmp o a b => fun pe => match pe with | .Compare x [op] [y] _ => decide (op = coP o) && nset y && mE Γ a x && mE Γ b y | _ => false
  | .ch o p a b c => fun pe => match pe with | .Compare x [op, op'] [y, z] _ => decide (op = coP o) && decide (op' = coP p) && nset z && mE Γ a x && mE Γ b y && mE Γ c z | _ => false
  | .and2 a b => fun pe => match pe with
    | .BoolOp .And [x, y] _ => nif x && nif y && mE Γ a x && mE Γ b y
    | .BoolOp .And (x :: y :: z :: r) pos => nif x && mE Γ a x && mE Γ b (.BoolOp .And (y :: z :: r) pos)
    | _ => false
  | .or2 a b => fun pe => match pe with
    | .BoolOp .Or [x, y] _ => nif x && nif y && mE Γ a x && mE Γ b y
    | .BoolOp .Or (x :: y :: z :: r) pos => nif x && mE Γ a x && mE Γ b (.BoolOp .Or (y :: z :: r) pos)
    | _ => false
  | .not a => fun pe => match pe with | .UnaryOp .Not x _ => nif x && mE Γ a x | _ => false
  | .ife c a b => fun pe => match pe with | .IfExp z x y _ => nif z && mE Γ c z && mE Γ a x && mE Γ b y | _ => false
  | .tup es => fun pe => match pe with | .Tuple xs _ _ => mEs Γ es xs | _ => false
  | .lst es => fun pe => match pe with | .List xs _ => mEs Γ es xs | _ => false
  | .lstM es => fun pe => match pe with | .List xs _ => mEs Γ es xs | _ => false
  | .ix a b => fun pe => match pe with | .Subscript x y _ => nsl y && mE Γ a x && mE Γ b y | _ => false
  | .sl a b c => fun pe => match pe with | .Subscript x (.Slice (some y) (some z) none _) _ => mE Γ a x && mE Γ b y && mE Γ c z | _ => false
  | .slF a b => fun pe => match pe with | .Subscript x (.Slice (some y) none none _) _ => mE Γ a x && mE Γ b y | _ => false
  | .slT a c => fun pe => match pe with | .Subscript x (.Slice none (some z) none _) _ => mE Γ a x && mE Γ c z | _ => false
  | .call f es => fun pe => match pe with
    | .Call (.Name y _) (x :: xs) [] _ => decide (Γ.tb.dn[f]? = some (some y)) && Γ.gl y && okN y && (!Γ.n || Γ.tb.md.getD f false) && mEs Γ es (x :: xs)
    | _ => false
  | .b1 b a => fun pe => match pe with | .Call (.Name y _) [x] [] _ => Γ.bi y (biN b) && nst x && mE Γ a x | _ => false
  | .dm a b => fun pe => match pe with | .Call (.Name y _) [x, z] [] _ => Γ.bi y "divmod" && nst x && nst z && mE Γ a x && mE Γ b z | _ => false
  | .app a b => fun pe => match pe with | .Call (.Attribute o nm ap) [x] [] cp => decide (nm = ("append" : Str)) && nsup o && (ap.endLine == cp.line) && nst x && mE Γ a o && mE Γ b x | _ => false
  | .ext a b => fun pe => match pe with | .Call (.Attribute o nm ap) [x] [] cp => decide (nm = ("extend" : Str)) && nsup o && (ap.endLine == cp.line) && nst x && mE Γ a o && mE Γ b x | _ => false
  | .pop a => fun pe => match pe with | .Call (.Attribute o nm ap) [] [] cp => decide (nm = ("pop" : Str)) && nsup o && (ap.endLine == cp.line) && mE Γ a o | _ => false
  | .lc g it c el => fun pe => match pe with
    | .ListComp x [⟨tg, i, ifs, 0⟩] scope _ => nset i && mE Γ it i && blkC Γ.N Γ.sc scope (ownOf Γ.N (tgs g)) && mTg (Γ.blk scope) g tg && mE (Γ.blk scope) el x &&
        (match ifs with
          | [] => isBT c
          | [q] => nif q && mE (Γ.blk scope) c q
          | _ => false)
    | _ => false
  | .gin _ ps a => fun pe => match pe with | .Compare x [.In] [.Name y _] _ => decide (Γ.tb.dics.lookup y = some ps) && Γ.gl y && okN y && mE Γ a x | _ => false
  | .gs _ cs => fun pe => match pe with | .Name y _ => decide (Γ.tb.txts.lookup y = some cs) && Γ.gl y && okN y | _ => false
  | .ginS _ ps a => fun pe => match pe with | .Compare x [.In] [.Name y _] _ => decide (Γ.tb.dicS.lookup y = some ps) && Γ.gl y && okN y && mE Γ a x | _ => false
  | .ggetS _ ps a => fun pe => match pe with | .Subscript (.Name y _) x _ => decide (Γ.tb.dicS.lookup y = some ps) && Γ.gl y && okN y && nsl x && mE Γ a x | _ => false
  | .at c f a => fun pe => match pe with | .Attribute x n _ => Γ.fld c f n && nsup x && mE Γ a x | _ => false
  | .meth c f o es => fun pe => match pe with
    | .Call (.Attribute x n ap) xs [] cp => Γ.mth c f n && nsup x && (ap.endLine == cp.line) && decide (xs.length < 10) && mE Γ o x && mEs Γ es xs
    | _ => false
  | .new c f es => fun pe => match pe with
    | .Call (.Name y _) xs [] _ => Γ.mkr c f y && mEs Γ es xs
    | _ => false
  | .isi t a => fun pe => match pe with | .Call (.Name y _) [x, .Name z _] [] _ => Γ.bi y "isinstance" && Γ.bi z (tyN t) && nst x && mE Γ a x | _ => false
  | .rngL a b => fun pe => match pe with | .Call (.Name y _) [.Call (.Name z _) [u, v] [] _] [] _ => Γ.bi y "list" && Γ.bi z "range" && nst u && nst v && mE Γ a u && mE Γ b v | _ => false
  | .list a => fun pe => match pe with | .Call (.Name y _) [x] [] _ => Γ.bi y "list" && nst x && mE Γ a x | _ => false
  | .dict t a => fun pe => match pe with | .Call (.Name y _) [x] [] _ => !t && Γ.bi y "dict" && nst x && mE Γ a x | _ => false
  | .dicM _ => fun pe => match pe with | .Dict [] [] _ => true | _ => false
  | .lstU es => fun pe => match pe with | .List [x] _ => mEs Γ es [x] | _ => false
  | .gget _ ps a => fun pe => match pe with | .Subscript (.Name y _) x _ => decide (Γ.tb.dics.lookup y = some ps) && Γ.gl y && okN y && nsl x && mE Γ a x | _ => false
  | _ => fun _ => false
def mEs (Γ : Gam) : Es → List Expr → Bool
  | .nil => fun xs => xs.isEmpty
  | .cons e es => fun xs => match xs with | x :: r => nst x && mE Γ e x && mEs Γ es r | _ => false
end
end Cn

/-! # instances: fields, methods, new ones -/
namespace Cn
open PySem PySem.Spec PyProof.Rows L2
theorem zipF : ∀ {fns : List Str} {vs : List V} {f : Nat} {n : Str} {v : V}, fns.Nodup → fns[f]? = some n → vs[f]? = some v → (fns.zip vs).lookup n = some v
  | [], _, _, _, _, _, h, _ => by simp at h
  | _ :: _, [], _, _, _, _, _, h => by simp at h
  | a :: r, b :: s, 0, n, v, nd, h1, h2 => by
    simp at h1 h2
    subst h1 h2
    simp [List.zip_cons_cons, List.lookup]
  | a :: r, b :: s, f + 1, n, v, nd, h1, h2 => by
    have nd' := List.nodup_cons.mp nd
    have h1' : r[f]? = some n := by simpa using h1
    have hne : n ≠ a := fun e => nd'.1 (by rw [← e]; exact List.mem_of_getElem? h1')
    have hb : (n == a) = false := by simpa using hne
    rw [List.zip_cons_cons, List.lookup_cons, hb]
    exact zipF nd'.2 h1' (by simpa using h2)
theorem zip_no : ∀ {fns : List Str} {vs : List V} {m : Str}, m ∉ fns → (fns.zip vs).lookup m = none
  | [], _, _, _ => by simp
  | _ :: _, [], _, _ => by simp
  | a :: r, b :: s, m, h => by
    simp only [List.mem_cons, not_or] at h
    have hb : (m == a) = false := by simpa using h.1
    rw [List.zip_cons_cons, List.lookup_cons, hb]
    exact zip_no h.2
theorem putF_set : ∀ {fns : List Str} {vs : List V} {f : Nat} {n : Str} {v : V}, fns.Nodup → fns[f]? = some n → f < vs.length → putF n v (fns.zip vs) = fns.zip (vs.set f v)
  | [], _, _, _, _, _, h, _ => by simp at h
  | _ :: _, [], _, _, _, _, _, h => by simp at h
  | a :: r, b :: s, 0, n, v, nd, h1, h2 => by
    simp at h1
    subst h1
    simp [putF]
  | a :: r, b :: s, f + 1, n, v, nd, h1, h2 => by
    have nd' := List.nodup_cons.mp nd
    have h1' : r[f]? = some n := by simpa using h1
    have hne : ¬ a = n := fun e => nd'.1 (by rw [e]; exact List.mem_of_getElem? h1')
    rw [List.zip_cons_cons]
    show (if a = n then (a, v) :: r.zip s else (a, b) :: putF n v (r.zip s)) = _
    rw [if_neg hne, putF_set nd'.2 h1' (by simpa using h2), List.set_cons_succ, List.zip_cons_cons]
theorem putF_new : ∀ {fns : List Str} {vs : List V} {n : Str} {v : V}, fns.Nodup → fns[vs.length]? = some n → putF n v (fns.zip vs) = fns.zip (vs ++ [v])
  | [], _, _, _, _, h => by simp at h
  | a :: r, [], n, v, nd, h1 => by
    simp at h1
    subst h1
    simp [putF]
  | a :: r, b :: s, n, v, nd, h1 => by
    have nd' := List.nodup_cons.mp nd
    have h1' : r[s.length]? = some n := by simpa using h1
    have hne : ¬ a = n := fun e => nd'.1 (by rw [e]; exact List.mem_of_getElem? h1')
    rw [List.zip_cons_cons]
    show (if a = n then (a, v) :: r.zip s else (a, b) :: putF n v (r.zip s)) = _
    rw [if_neg hne, putF_new nd'.2 h1', List.cons_append, List.zip_cons_cons]
theorem Paired.setAt {α β : Type} {R : α → β → Prop} : ∀ {xs : List α} {ys : List β} (i : Nat) {x : α} {y : β}, Paired R xs ys → R x y → Paired R (xs.set i x) (ys.set i y)
  | _, _, _, _, _, .nil, _ => .nil
  | _, _, 0, _, _, .cons _ t, h => .cons h t
  | _, _, i + 1, _, _, .cons q t, h => .cons q (Paired.setAt i t h)
theorem Paired.getB {α β : Type} {R : α → β → Prop} : ∀ {xs : List α} {ys : List β} {i : Nat} {y : β}, Paired R xs ys → ys[i]? = some y → ∃ x, xs[i]? = some x ∧ R x y
  | _, _, _, _, .nil, e => by simp at e
  | _, _, 0, _, .cons h _, e => by simp at e; subst e; exact ⟨_, rfl, h⟩
  | _, _, i + 1, _, .cons _ t, e => by
    obtain ⟨x, h1, h2⟩ := Paired.getB (i := i) t (by simpa using e)
    exact ⟨x, by simpa using h1, h2⟩
/-- a class of the text -/
structure ClOk (K : PySem.W.Frag) (T : Tx) (c : Nat) : Prop where
  cls : Cls K (T.cad c)
  na : ∀ f ∈ T.fn c, NoAttr K (T.cad c) f
  nd : (T.fn c).Nodup
  short : (T.fn c).length ≤ 10
section
variable {T : Tx} {F F' H : Hp} {ρ ρ' : Ro} {m : Mu}
theorem Rel.rootIns (R : Rel T F ρ H m) {n : Nat} {p : Addr × List Addr} {c : Nat} {us : List U} (e : ρ[n]? = some p) (hr : rootAt m n = some (.ins c us)) : ∃ dx vs, H p.1 = some (.ins (T.cad c) dx ((T.fn c).zip vs)) ∧ vs.length ≤ (T.fn c).length ∧ RUs T F p.2 vs us := by
  obtain ⟨g, hg, hq⟩ := rootAt_some hr
  obtain ⟨ow, h⟩ := R.ex
  obtain ⟨o, h1, h2⟩ := (h n p g e hg).root
  rw [hq] at h2
  obtain ⟨dx, vs, rfl, hl, q⟩ := h2
  exact ⟨dx, vs, h1, hl, q⟩
end
section
variable {T : Tx} {xt : Xt} {X : Cx} {W' : WX} {C : Calls} {σ : L2.St} {H : Hp} {a b o e : E} {Q : VK} {c f : Nat} {n : Str}
/-- a value's field -/
theorem at_R {F : Hp} {ρ : Ro} {m : Mu} {v : V} {w : W} {Q : VK} {e : XK} (k : ClOk X.K T c) (hf : (T.fn c)[f]? = some n) (R : Rel T F ρ H m) (hv : RW T F ρ v w) (A : After T xt F ρ (atR m c f w) (KV1 T Q) e) :
    ∃ a C dx fs v', v = .ref a ∧ H a = some (.ins C dx fs) ∧ Cls X.K C ∧ NoAttr X.K C n ∧ fs.lookup n = some v' ∧ Q v' H := by
  have hmem := List.mem_of_getElem? hf
  unfold atR at A
  split at A
  · split at A
    · rename_i hk
      subst hk
      split at A
      · rename_i x hx
        cases hv with
        | ins ha hl hr =>
          obtain ⟨v', e1, e2⟩ := hr.get hx
          exact ⟨_, _, _, _, v', rfl, R.sub _ _ ha, k.cls, k.na _ hmem, zipF k.nd hf e1, fin_old A R e2⟩
      · exact A.elim
    · exact A.elim
  · rename_i j
    split at A
    · rename_i kk us hr
      split at A
      · rename_i hk
        subst hk
        split at A
        · rename_i u hu
          obtain ⟨p, e1, rfl⟩ := hv
          obtain ⟨dx, vs, h1, hl, h2⟩ := R.rootIns e1 hr
          obtain ⟨v', e2, e3⟩ := Paired.getB h2 hu
          exact ⟨_, _, _, _, v', rfl, h1, k.cls, k.na _ hmem, zipF k.nd hf e2, fin_old A R (toU_rw e1 e3)⟩
        · exact A.elim
      · exact A.elim
    · exact A.elim
  · exact A.elim
theorem s_at (k : ClOk X.K T c) (hf : (T.fn c)[f]? = some n) (h : tE T xt W' (fun ws m => evE C ws m (.at c f a)) σ H Q) : tFld X.K (tE T xt W' fun ws m => evE C ws m a) n σ H Q := by
  simp only [evE] at h
  exact tE_bind (f := fun ws x m => atR m c f x) h fun F ρ m ws v w H1 R S hv A => at_R k hf R hv A
/-- a field is stored -/
theorem sta_R {D : Ends} {F : Hp} {ρ : Ro} {m : Mu} {x y : V} {w z : W} {ws : Sl} (k : ClOk X.K T c) (hf : (T.fn c)[f]? = some n) (R : Rel T F ρ H m) (S : RSl T F ρ σ ws) (hx : RW T F ρ x w) (hy : RW T F ρ y z)
    (A : AfterS T xt W' D F ρ σ ((sta m c f w z).toS ws fun _ m => .next ws m)) :
    ∃ a dx fs, x = .ref a ∧ H a = some (.ins (T.cad c) dx fs) ∧ fs.length < 1000 ∧ D.nx σ (upd H a (.ins (T.cad c) dx (putF n y fs))) := by
  unfold sta at A
  split at A
  · rename_i j
    split at A
    · rename_i kk us hr
      split at A
      · rename_i hk
        subst hk
        obtain ⟨p, e1, rfl⟩ := hx
        obtain ⟨dx, vs, h1, hl, h2⟩ := R.rootIns e1 hr
        obtain ⟨gr, hg, hq⟩ := rootAt_some hr
        have hlen := PairedLen h2
        have hsh := k.short
        refine ⟨_, _, _, rfl, h1, by rw [List.length_zip]; omega, ?_⟩
        split at A
        · rename_i hlt
          cases ea : adopt m j z with
          | ok u m' =>
            rw [ea] at A
            obtain ⟨ρ', p', g', R', le, e1', ep, hg', hroot, hz, as, eas⟩ := R.adopt e1 hg hy ea
            have h2' := RUs.mono (F' := F) (bs := as) Le.rfl' h2
            rw [← eas] at h2'
            have := R'.setRoot (ob := .ins kk (us.set f u)) (ho := .ins (T.cad kk) dx ((T.fn kk).zip (vs.set f y))) e1' hg' ⟨dx, _, rfl, by simpa using hl, Paired.setAt f h2' hz⟩
            rw [ep] at this
            rw [putF_set k.nd hf (by omega)]
            exact A F ρ' _ σ this Le.rfl' le (S.mono Le.rfl' le)
          | exc q m' =>
            unfold adopt at ea
            split at ea
            · cases ea
            · split at ea
              · cases ea
              · split at ea <;> cases ea
            · cases ea
          | stuck => rw [ea] at A; exact A.elim
        · split at A
          · rename_i hnlt heq
            cases ea : adopt m j z with
            | ok u m' =>
              rw [ea] at A
              obtain ⟨ρ', p', g', R', le, e1', ep, hg', hroot, hz, as, eas⟩ := R.adopt e1 hg hy ea
              have h2' := RUs.mono (F' := F) (bs := as) Le.rfl' h2
              rw [← eas] at h2'
              have hfl : f < (T.fn kk).length := (List.getElem?_eq_some_iff.mp hf).1
              have := R'.setRoot (ob := .ins kk (us ++ [u])) (ho := .ins (T.cad kk) dx ((T.fn kk).zip (vs ++ [y]))) e1' hg' ⟨dx, _, rfl, by simp; omega, Paired.snoc h2' hz⟩
              rw [ep] at this
              rw [putF_new k.nd (by rw [hlen, ← heq]; exact hf)]
              exact A F ρ' _ σ this Le.rfl' le (S.mono Le.rfl' le)
            | exc q m' =>
              unfold adopt at ea
              split at ea
              · cases ea
              · split at ea
                · cases ea
                · split at ea <;> cases ea
              · cases ea
            | stuck => rw [ea] at A; exact A.elim
          · exact A.elim
      · exact A.elim
    · exact A.elim
  · exact A.elim
end
end Cn

/-! # statements that store into fields; methods, new instances -/
namespace Cn
open PySem PySem.Spec PyProof.Rows L2
section
variable {T : Tx} {xt : Xt} {X : Cx} {W' : WX} {C : Calls} {σ : L2.St} {H : Hp} {D : Ends} {a b o e k : E} {Q : VK} {c f : Nat} {n : Str}
theorem q_seta (kc : ClOk X.K T c) (hf : (T.fn c)[f]? = some n) (h : tS T xt W' (fun ws m => evS C ws m (.seta c f o e)) D σ H) : sFld X.K (tE T xt W' fun ws m => evE C ws m o) (tE T xt W' fun ws m => evE C ws m e) n D σ H := by
  obtain ⟨F, ρ, m, ws, R, S, A⟩ := h
  simp only [evS] at A
  refine ⟨F, ρ, m, ws, R, S, (A.toS S).imp (fun F1 ρ1 H1 m1 w R1 l1 g1 A1 y hy => ?_) fun _ _ _ z => z⟩
  have S1 := S.mono l1 g1
  refine ⟨F1, ρ1, m1, ws, R1, S1, (A1.toS S1).imp (fun F2 ρ2 H2 m2 u R2 l2 g2 A2 x hx => ?_) fun _ _ _ z => z⟩
  obtain ⟨ad, dx, fs, q1, q2, q3, q4⟩ := sta_R kc hf R2 (S1.mono l2 g2) hx (hy.mono l2 g2) A2
  exact ⟨ad, T.cad c, dx, fs, q1, q2, kc.cls, kc.na _ (List.mem_of_getElem? hf), q3, q4⟩
theorem augR_cases {m : Mu} {bo : Bo} {v w : W} : augR m bo v w = .stuck ∨ ∃ i j, v = .d (.int i) ∧ w = .d (.int j) ∧ ((bo = .add ∧ augR m bo v w = .ok (.d (.int (i + j))) m) ∨ (bo = .sub ∧ augR m bo v w = .ok (.d (.int (i - j))) m)) := by
  unfold augR
  split
  · exact .inr ⟨_, _, rfl, rfl, .inl ⟨rfl, rfl⟩⟩
  · exact .inr ⟨_, _, rfl, rfl, .inr ⟨rfl, rfl⟩⟩
  · exact .inl rfl
/-- what the augmented operator asks -/
def rdA : Bo → V → V → Hp → VK → Prop
  | .add => rAdd
  | .sub => rSub
  | _ => fun _ _ _ _ => False
theorem in_A {bo : Bo} (h : bo = .add ∨ bo = .sub) : InOp X (boP bo) (rdA bo) := by
  rcases h with rfl | rfl
  · exact in_add
  · exact in_sub
theorem aug_R {F : Hp} {ρ : Ro} {m : Mu} {bo : Bo} {v y : V} {u w : W} {ws : Sl} {f : W → Mu → SR} (R : Rel T F ρ H m) (hv : RW T F ρ v u) (hy : RW T F ρ y w) (A : AfterS T xt W' D F ρ σ ((augR m bo u w).toS ws f)) {K : V → Hp → Prop}
    (k : ∀ i, AfterS T xt W' D F ρ σ (f (.d (.int i)) m) → K (.int i) H) : rdA bo v y H K := by
  rcases augR_cases (m := m) (bo := bo) (v := u) (w := w) with q | ⟨i, j, rfl, rfl, ⟨rfl, q⟩ | ⟨rfl, q⟩⟩
  · rw [q] at A; exact A.elim
  · rw [q] at A
    exact ⟨i, j, RD.intV hv, RD.intV hy, k _ A⟩
  · rw [q] at A
    exact ⟨i, j, RD.intV hv, RD.intV hy, k _ A⟩
theorem atR_get {F : Hp} {ρ : Ro} {m : Mu} {v : V} {w : W} {P : Hp → Ro → Hp → Mu → W → Prop} {e : XK} (k : ClOk X.K T c) (hf : (T.fn c)[f]? = some n) (R : Rel T F ρ H m) (hv : RW T F ρ v w) (A : After T xt F ρ (atR m c f w) P e) :
    ∃ a dx fs v' w', v = .ref a ∧ H a = some (.ins (T.cad c) dx fs) ∧ fs.lookup n = some v' ∧ RW T F ρ v' w' ∧ P F ρ H m w' := by
  have hmem := List.mem_of_getElem? hf
  unfold atR at A
  split at A
  · split at A
    · rename_i hk
      subst hk
      split at A
      · rename_i x hx
        cases hv with
        | ins ha hl hr =>
          obtain ⟨v', e1, e2⟩ := hr.get hx
          exact ⟨_, _, _, v', .d x, rfl, R.sub _ _ ha, zipF k.nd hf e1, e2, A.ok R⟩
      · exact A.elim
    · exact A.elim
  · rename_i j
    split at A
    · rename_i kk us hr
      split at A
      · rename_i hk
        subst hk
        split at A
        · rename_i u hu
          obtain ⟨p, e1, rfl⟩ := hv
          obtain ⟨dx, vs, h1, hl, h2⟩ := R.rootIns e1 hr
          obtain ⟨v', e2, e3⟩ := Paired.getB h2 hu
          exact ⟨_, _, _, v', toU j u, rfl, h1, zipF k.nd hf e2, toU_rw e1 e3, A.ok R⟩
        · exact A.elim
      · exact A.elim
    · exact A.elim
  · exact A.elim
theorem q_auga {bo : Bo} (kc : ClOk X.K T c) (hf : (T.fn c)[f]? = some n) (h : tS T xt W' (fun ws m => evS C ws m (.auga c f bo o e)) D σ H) : sFldAug X.K (tE T xt W' fun ws m => evE C ws m o) (tE T xt W' fun ws m => evE C ws m e) (rdA bo) n D σ H := by
  obtain ⟨F, ρ, m, ws, R, S, A⟩ := h
  simp only [evS] at A
  refine ⟨F, ρ, m, ws, R, S, (A.toS S).imp (fun F1 ρ1 H1 m1 w R1 l1 g1 A1 x hx => ?_) fun _ _ _ z => z⟩
  have S1 := S.mono l1 g1
  obtain ⟨ad, dx, fs, v', w', rfl, h1, h4, h5, A2⟩ := atR_get kc hf R1 hx (A1.toS S1)
  refine ⟨ad, T.cad c, dx, fs, v', rfl, h1, kc.cls, kc.na _ (List.mem_of_getElem? hf), h4, F1, ρ1, m1, ws, R1, S1, (A2.toS S1).imp (fun F2 ρ2 H2 m2 u R2 l2 g2 A3 y hy => ?_) fun _ _ _ z => z⟩
  have S2 := S1.mono l2 g2
  refine aug_R R2 (h5.mono l2 g2) hy A3 fun i A4 => ?_
  obtain ⟨a', dx', fs', q1, q2, q5, q6⟩ := sta_R kc hf R2 S2 (hx.mono l2 g2) (w := w) (z := .d (.int i)) (RD.int i) A4
  cases q1
  exact ⟨dx', fs', q2, q5, q6⟩
end
/-! ### methods, new instances: what they raise is wished for at the caller's slots -/
section
variable {X : Cx} {CX : CXT} {lv : Nat} {g Ca : Addr} {fd : FuncData} {ps : List Str} {sp : Sp} {E : L2.St → XK} {x m : Str} {p q5 qa : Pos} {ob e : Expr} {es : List Expr} {to : TE} {ta : TA}
def tMetS (Ca : Addr) (m : Str) (sp : Sp) (E : L2.St → XK) (to : TE) (ta : TA) : TE := fun σ H Q => to σ H fun y H1 => ∃ (b dx : Addr) (fs : List (Str × V)), y = .ref b ∧ H1 b = some (.ins Ca dx fs) ∧ fs.lookup m = none ∧ ta σ H1 fun vs H2 => sp (y :: vs) H2 Q (E σ)
theorem pe_metS {pl : Sem Bool} (ho : PE X ob to) (cl : Cls X.K Ca) (hm : Meth X.K Ca m g) (FK : FnOk X.prog X.w X.K X.mg X.base CX lv g fd ps sp) (room : Room lv X.A) (bd : Binds X.K fd ps []) (pass : ∀ σ, PassesAt CX X σ (E σ)) (hes : PA X (e :: es) ta)
    (st : starEach (e :: es) X.env = (false, eval e X.env) :: starEach es X.env) (pl0 : (backTo q5 (starEach es X.env)).any (·.1) = false)
    (ev : eval (.Call (.Attribute ob m qa) (e :: es) [] q5) X.env = (do
      let ov ← eval ob X.env
      standAt qa.atName
      let (fn, first) ← holding [ov] (getMethod ov m pl)
      callWith q5 fn first (backTo q5 (starEach (e :: es) X.env)) (backToKw q5 (keywordEach [] X.env)))) :
    PE X (.Call (.Attribute ob m qa) (e :: es) [] q5) (tMetS Ca m sp E to ta) := by
  refine ⟨fun pn s0 σ0 H0 Q0 I0 h0 => ?_⟩
  refine PySem.W.methodCall_KW (pl := pl) (thn (ho.run pn s0 σ0 H0 _ I0 h0) fun u s1 ⟨y, H1, I1, ry, b, dx, fs, ey, eb, l, k⟩ => ?_) ev
  subst ey
  obtain rfl : u = Value.ref b := ry
  refine getmeth_ok I1 eb cl hm l ?_
  refine PySem.W.callWith_K (first := [.ref b]) (h₀ := X.base) I1.ok.mod.kin hm.kp (thn (hes.run q5 pn s1 σ0 H1 _ I1 k) fun us s2 ⟨vs, H2, I2, rv, k2⟩ => ⟨I2.kIn, ?_⟩) st pl0
  exact run_fnS (us := .ref b :: us) (vs := .ref b :: vs) FK room bd (pass σ0) I2 (.cons rfl rv) k2
theorem pe_metS0 {pl : Sem Bool} (ho : PE X ob to) (cl : Cls X.K Ca) (hm : Meth X.K Ca m g) (FK : FnOk X.prog X.w X.K X.mg X.base CX lv g fd ps sp) (room : Room lv X.A) (bd : Binds X.K fd ps []) (pass : ∀ σ, PassesAt CX X σ (E σ))
    (ev : eval (.Call (.Attribute ob m qa) [] [] q5) X.env = (do
      let ov ← eval ob X.env
      standAt qa.atName
      let (fn, first) ← holding [ov] (getMethod ov m pl)
      callWith q5 fn first (backTo q5 (starEach [] X.env)) (backToKw q5 (keywordEach [] X.env)))) :
    PE X (.Call (.Attribute ob m qa) [] [] q5) (tMetS Ca m sp E to tNil) := by
  refine ⟨fun pn s0 σ0 H0 Q0 I0 h0 => ?_⟩
  refine PySem.W.methodCall_KW (pl := pl) (thn (ho.run pn s0 σ0 H0 _ I0 h0) fun u s1 ⟨y, H1, I1, ry, b, dx, fs, ey, eb, l, k⟩ => ?_) ev
  subst ey
  obtain rfl : u = Value.ref b := ry
  refine getmeth_ok I1 eb cl hm l ?_
  exact PySem.W.callWith_K0 (first := [.ref b]) I1.kIn hm.kp (run_fnS (us := [.ref b]) (vs := [.ref b]) FK room bd (pass σ0) I1 (.cons rfl .nil) k)
def tMakS (Ca : Addr) (sp : Sp) (E : L2.St → XK) (ta : TA) : TE := fun σ H Q => ta σ H fun vs H1 => ∀ y dx, H1 y = none → H1 dx = none → dx ≠ y →
  sp (.ref y :: vs) (upd (upd H1 dx (.own y)) y (.ins Ca dx [])) (fun v H2 => v = .non ∧ Q (.ref y) H2) (E σ)
theorem run_mak {pn : List (Addr × Obj)} {σ0 : L2.St} {H0 : Hp} {s0 : Shared} {Q0 : VK} {us : List Value} {vs : List V} (M : Mk X.K Ca g) (FK : FnOk X.prog X.w X.K X.mg X.base CX lv g fd ps sp) (room : Room (lv + 1) X.A) (bd : Binds X.K fd ps [])
    (pass : PassesAt CX X σ0 (E σ0)) (I0 : Inv X pn σ0 H0 s0) (rv : Vals vs us)
    (h0 : ∀ y dx, H0 y = none → H0 dx = none → dx ≠ y → sp (.ref y :: vs) (upd (upd H0 dx (.own y)) y (.ins Ca dx [])) (fun v H2 => v = .non ∧ Q0 (.ref y) H2) (E σ0)) :
    wpAny (model X.prog X.w) X.A (call (.ref Ca) us) (EP X pn σ0 Q0) X.xe s0 := by
  have want := h0 (s0.heap.objs.size + 1) s0.heap.objs.size (I0.hok.fresh (Nat.le_succ _)) (I0.hok.fresh (Nat.le_refl _)) (Nat.ne_of_lt (Nat.lt_succ_self _))
  have J := Inv.made (C := Ca) I0
  have rv2 : Vals (V.ref (s0.heap.objs.size + 1) :: vs) (Value.ref (s0.heap.objs.size + 1) :: us) := .cons rfl rv
  have len : (Value.ref (s0.heap.objs.size + 1) :: us).length = ps.length := by
    rw [← rv2.length]
    exact FK.len _ _ _ _ want
  have bnd := bd _ (Value.ref (s0.heap.objs.size + 1) :: us) J.kIn (by rw [List.append_nil]; exact len)
  rw [List.append_nil] at bnd
  refine wpAny_call (make_map (f := g) I0.kIn M.makes M.init (beq_iff_eq.mp M.fn) (codeAny_mono (FK.run _ X.stack _ _ ⟨Value.ref (s0.heap.objs.size + 1) :: us, []⟩ (Value.ref (s0.heap.objs.size + 1) :: us) _ _ (E σ0) (room.make Ca us [])
    (J.env0.make Ca us []) bnd rv2 want) fun r s' fin => ?_))
  cases r with
  | error er => exact pass pn _ _ er s' J fin
  | ok fl =>
    cases fl with
    | ret u =>
      obtain ⟨v, H2, J2, rw2, ev, k⟩ := J.after fin
      subst ev
      exact ⟨rw2, ⟨V.ref (s0.heap.objs.size + 1), H2, J2, rfl, k⟩⟩
    | next => exact False.elim fin
    | brk => exact False.elim fin
    | cont => exact False.elim fin
theorem pe_makS (M : Mk X.K Ca g) (FK : FnOk X.prog X.w X.K X.mg X.base CX lv g fd ps sp) (room : Room (lv + 1) X.A) (gl : Gl X x) (gm : X.mg x = some (.ref Ca)) (bd : Binds X.K fd ps []) (pass : ∀ σ, PassesAt CX X σ (E σ))
    (hes : PA X (e :: es) ta) (hdb : (x == ("__debug__" : Str)) = false) (st : starEach (e :: es) X.env = (false, eval e X.env) :: starEach es X.env) (pl0 : (backTo q5 (starEach es X.env)).any (·.1) = false) :
    PE X (.Call (.Name x p) (e :: es) [] q5) (tMakS Ca sp E ta) := by
  refine ⟨fun pn s0 σ0 H0 Q0 I0 h0 => ?_⟩
  refine wpAny_Call_Name_kw (ld_glob I0 gl gm ?_ hdb)
  refine PySem.W.callWith_K (h₀ := X.base) I0.ok.mod.kin M.kp (thn (hes.run q5 pn s0 σ0 H0 _ I0 h0) fun us s1 ⟨vs, H1, I1, rv, k⟩ => ⟨I1.kIn, ?_⟩) st pl0
  exact run_mak M FK room bd (pass σ0) I1 rv k
theorem pe_makS0 (M : Mk X.K Ca g) (FK : FnOk X.prog X.w X.K X.mg X.base CX lv g fd ps sp) (room : Room (lv + 1) X.A) (gl : Gl X x) (gm : X.mg x = some (.ref Ca)) (bd : Binds X.K fd ps []) (pass : ∀ σ, PassesAt CX X σ (E σ))
    (hdb : (x == ("__debug__" : Str)) = false) : PE X (.Call (.Name x p) [] [] q5) (tMakS Ca sp E tNil) := by
  refine ⟨fun pn s0 σ0 H0 Q0 I0 h0 => ?_⟩
  refine wpAny_Call_Name_kw (ld_glob I0 gl gm ?_ hdb)
  exact PySem.W.callWith_K0 I0.kIn M.kp (run_mak (us := []) M FK room bd (pass σ0) I0 .nil h0)
end
section
variable {T : Tx} {xt : Xt} {X : Cx} {W' : WX} {C : Calls} {σ : L2.St} {H : Hp} {o : E} {es : Es} {Q : VK} {c f : Nat} {n : Str}
theorem clsR_at {F : Hp} {ρ : Ro} {m : Mu} {v : V} {w : W} (R : Rel T F ρ H m) (hv : RW T F ρ v w) (e : clsR m w = some c) : ∃ (a dx : Addr) (vs : List V), v = .ref a ∧ H a = some (.ins (T.cad c) dx ((T.fn c).zip vs)) := by
  unfold clsR at e
  split at e
  · cases e
    cases hv with
    | ins ha hl hr => exact ⟨_, _, _, rfl, R.sub _ _ ha⟩
  · split at e
    · rename_i j c' us hr
      cases e
      obtain ⟨p, e1, rfl⟩ := hv
      obtain ⟨dx, vs, h1, _, _⟩ := R.rootIns e1 hr
      exact ⟨_, _, _, rfl, h1⟩
    · cases e
  · cases e
/-- a callee's promise, whatever lies aside -/
def spA (T : Tx) (xt : Xt) (c : List W → Mu → Res W) : Sp := fun vs H Q E => ∃ s, spR (T.wi s) xt c vs H Q E
theorem s_meth (hn : n ∉ T.fn c) (h : tE T xt W' (fun ws m => evE C ws m (.meth c f o es)) σ H Q) : tMetS (T.cad c) n (spA T xt (C f)) (WE W') (tE T xt W' fun ws m => evE C ws m o) (tA T xt W' fun ws m => evEs C ws m es) σ H Q := by
  simp only [evE] at h
  refine tE_bind (f := fun ws x m => (match clsR m x with | some k => if k = c then (evEs C ws m es).bind fun ws m => C f (x :: ws) m else .stuck | none => .stuck)) h fun F ρ m ws v w H1 R S hv A => ?_
  split at A
  · rename_i k hk
    split at A
    · rename_i e
      subst e
      obtain ⟨a, dx, vs, rfl, ha⟩ := clsR_at R hv hk
      refine ⟨a, dx, _, rfl, ha, zip_no hn, F, ρ, m, ws, R, S, A.bind.imp (fun F1 ρ1 H2 m1 us r1 l1 g1 k2 vs2 hv2 => ?_) fun _ _ _ z => z⟩
      exact ⟨T.side, F1, ρ1, m1, w :: us, r1, .cons (hv.mono l1 g1) hv2, k2⟩
    · exact A.elim
  · exact A.elim
theorem nonR_after {F : Hp} {ρ : Ro} {w : W} {r : Res W} {k : Hp → Ro → Hp → Mu → W → Prop} {e : XK} (A : After T xt F ρ (nonR w r) k e) : w = .d .non ∧ After T xt F ρ r k e := by
  unfold nonR at A
  split at A
  · exact ⟨rfl, A⟩
  · exact A.elim
theorem s_new (h : tE T xt W' (fun ws m => evE C ws m (.new c f es)) σ H Q) : tMakS (T.cad c) (spA T xt (C f)) (WE W') (tA T xt W' fun ws m => evEs C ws m es) σ H Q := by
  simp only [evE] at h
  refine tA_bind (f := fun _ us m => (C f (.h m.length :: us) (m ++ [some ⟨.ins c [], []⟩])).bind fun w m1 => nonR w (.ok (.h m.length) m1)) h fun F ρ m ws vs us H1 R S hv A => ?_
  intro y dx hy hdx hne
  have R1 : Rel T F ρ (upd H1 dx (.own y)) m := R.side hdx
  have R2 := R1.alloc (a := y) (ho := .ins (T.cad c) dx []) (ob := .ins c []) (by rw [upd_ne (Ne.symm hne)]; exact hy) ⟨dx, [], by simp, Nat.zero_le _, .nil⟩
  refine ⟨T.side, F, ρ ++ [(y, [])], _, .h m.length :: us, R2, .cons ⟨(y, []), by rw [← R.len, List.getElem?_append_right (Nat.le_refl _)]; simp, rfl⟩ (hv.mono Le.rfl' RoLe.snoc), ?_⟩
  have A' := After.mono (F' := F) (ρ' := ρ ++ [(y, [])]) A Le.rfl' RoLe.snoc
  refine A'.bind.imp (fun F1 ρ1 H2 m1 w r1 l1 g1 k v hv2 => ?_) fun _ _ _ z => z
  obtain ⟨rfl, k⟩ := nonR_after k
  refine ⟨RD.nonV hv2, k.ok r1 _ ?_⟩
  obtain ⟨as, e1⟩ := g1.2 m.length (y, []) (by rw [← R.len, List.getElem?_append_right (Nat.le_refl _)]; simp)
  exact ⟨_, e1, rfl⟩
end
end Cn

/-! # isinstance, list(..), dict(..), {}, [[..]], d[k] = v -/
namespace Cn
open PySem PySem.Spec PyProof.Rows L2
/-! ### a dict's entries -/
theorem put_zip {κ κ' : Type} [DecidableEq κ] [DecidableEq κ'] {f : κ → κ'} (hf : ∀ {a b : κ}, f a = f b ↔ a = b) (k : κ) (v : V) (ks : List κ) (vs : List V) (hl : ks.length = vs.length) :
    putK ((ks.map f).zip vs) (f k) v = match putA k v ks vs with
      | some us => (ks.map f).zip us
      | none => ((ks ++ [k]).map f).zip (vs ++ [v]) := by
  have hany : (((ks.map f).zip vs).any fun kv => decide (kv.1 = f k)) = decide (k ∈ ks) := by
    clear v
    induction ks generalizing vs with
    | nil => simp
    | cons a r ih =>
      cases vs with
      | nil => simp at hl
      | cons b s =>
        rw [List.map_cons, List.zip_cons_cons, List.any_cons, ih s (by simpa using hl)]
        by_cases h : a = k
        · subst h; simp
        · have h1 : ¬ f a = f k := fun e => h (hf.mp e)
          have h2 : ¬ k = a := fun e => h e.symm
          simp [h1, h2]
  have hmap : ((ks.map f).zip vs).map (fun kv => if kv.1 = f k then (kv.1, v) else kv) = (ks.map f).zip (List.zipWith (fun a x => if a = k then v else x) ks vs) := by
    clear hany
    induction ks generalizing vs with
    | nil => simp
    | cons a r ih =>
      cases vs with
      | nil => simp at hl
      | cons b s =>
        rw [List.map_cons, List.zip_cons_cons, List.map_cons, ih s (by simpa using hl), List.zipWith_cons_cons, List.zip_cons_cons]
        congr 1
        by_cases h : a = k
        · subst h; simp
        · have h1 : ¬ f a = f k := fun e => h (hf.mp e)
          simp [h, h1]
  unfold putK putA
  rw [hany]
  by_cases h : k ∈ ks
  · simp only [h, decide_true, if_true]
    exact hmap
  · simp only [h, decide_false, if_false, Bool.false_eq_true]
    rw [List.map_append, List.zip_append (by simpa using hl)]
    rfl
theorem put_len {κ α : Type} [DecidableEq κ] {k : κ} {v : α} {ks : List κ} {vs us : List α} (h : putA k v ks vs = some us) (hl : ks.length = vs.length) : us.length = ks.length := by
  unfold putA at h
  split at h
  · cases h; simp [hl]
  · cases h
section
variable {T : Tx} {F : Hp}
theorem put_rds {κ : Type} [DecidableEq κ] (k : κ) {v : V} {x : D} (hv : RD T F v x) : ∀ {ks : List κ} {vs : List V} {xs : List D}, RDs T F vs xs → RDs T F (List.zipWith (fun a y => if a = k then v else y) ks vs) (List.zipWith (fun a y => if a = k then x else y) ks xs)
  | [], _, _, _ => by simp; exact .nil
  | a :: r, _, _, .nil => by simp; exact .nil
  | a :: r, _, _, .cons h t => by
    rw [List.zipWith_cons_cons, List.zipWith_cons_cons]
    refine .cons ?_ (put_rds k hv t)
    by_cases e : a = k
    · rw [if_pos e, if_pos e]; exact hv
    · rw [if_neg e, if_neg e]; exact h
/-- one entry more, the same on both sides -/
theorem put_both {κ κ' : Type} [DecidableEq κ] [DecidableEq κ'] {f : κ → κ'} (hf : ∀ {a b : κ}, f a = f b ↔ a = b) (k : κ) {v : V} {x : D} (hv : RD T F v x) {ks : List κ} {vs : List V} {xs : List D} (hl : ks.length = vs.length) (r : RDs T F vs xs) :
    (∃ us ys, putA k x ks xs = some ys ∧ putK ((ks.map f).zip vs) (f k) v = (ks.map f).zip us ∧ ks.length = us.length ∧ RDs T F us ys) ∨
    (putA k x ks xs = none ∧ putK ((ks.map f).zip vs) (f k) v = ((ks ++ [k]).map f).zip (vs ++ [v]) ∧ (ks ++ [k]).length = (vs ++ [v]).length ∧ RDs T F (vs ++ [v]) (xs ++ [x])) := by
  rw [put_zip hf k v ks vs hl]
  by_cases h : k ∈ ks
  · refine .inl ⟨_, _, by unfold putA; rw [if_pos h], by unfold putA; rw [if_pos h], by simp [hl], put_rds k hv r⟩
  · refine .inr ⟨by unfold putA; rw [if_neg h], by unfold putA; rw [if_neg h], by simp [hl], r.append (.cons hv .nil)⟩
theorem merge_both {κ κ' : Type} [DecidableEq κ] [DecidableEq κ'] {f : κ → κ'} (hf : ∀ {a b : κ}, f a = f b ↔ a = b) : ∀ {ns : List κ} {us : List V} {ys : List D} {ks : List κ} {vs : List V} {xs : List D}, RDs T F us ys → ns.length = us.length → ks.length = vs.length → RDs T F vs xs →
    ∃ vs', ((ns.map f).zip us).foldl (fun acc kv => putK acc kv.1 kv.2) ((ks.map f).zip vs) = ((mergeA ks xs ns ys).1.map f).zip vs' ∧ (mergeA ks xs ns ys).1.length = vs'.length ∧ RDs T F vs' (mergeA ks xs ns ys).2
  | [], us, ys, ks, vs, xs, hu, hn, hl, r => by
    cases hu with
    | nil => exact ⟨vs, by simp [mergeA], by simpa [mergeA] using hl, by simpa [mergeA] using r⟩
    | cons _ _ => simp at hn
  | n :: ns, us, ys, ks, vs, xs, hu, hn, hl, r => by
    cases hu with
    | nil => simp at hn
    | cons h t =>
      rename_i u us y ys
      rw [List.map_cons, List.zip_cons_cons, List.foldl_cons]
      rcases put_both hf n h hl r with ⟨us2, ys2, e1, e2, e3, e4⟩ | ⟨e1, e2, e3, e4⟩
      · dsimp only
        rw [e2]
        have : mergeA ks xs (n :: ns) (y :: ys) = mergeA ks ys2 ns ys := by
          rw [mergeA, e1]
        rw [this]
        exact merge_both hf t (by simpa using hn) e3 e4
      · dsimp only
        rw [e2]
        have : mergeA ks xs (n :: ns) (y :: ys) = mergeA (ks ++ [n]) (xs ++ [y]) ns ys := by
          rw [mergeA, e1]
        rw [this]
        exact merge_both hf t (by simpa using hn) e3 e4
/-- pairs as they lie -/
theorem pairs_at {K : PySem.W.Frag} {H : Hp} (le : Le F H) : ∀ {ps : List D} {vs : List V} {ks xs : List D} {kys : List Ky}, RDs T F vs ps → pairs ps = some (ks, xs) → toKys ks = some kys →
    ∃ (as : List Addr) (us : List V), vs = as.map V.ref ∧ Paired (fun p (kv : L2.Key × V) => SqT K H p [kV kv.1, kv.2]) as ((kys.map kyV).zip us) ∧ kys.length = us.length ∧ RDs T F us xs
  | [], _, _, _, _, .nil, e, e2 => by
    cases e
    cases e2
    exact ⟨[], [], rfl, .nil, rfl, .nil⟩
  | p :: r, _, ks, xs, kys, .cons h t, e, e2 => by
    unfold pairs at e
    split at e
    · rename_i q; cases q
    · rename_i _ a b r' _ e1
      cases e1
      split at e
      · rename_i ks' vs' e3
        cases e
        unfold toKys at e2
        split at e2
        · rename_i i t' q1 q2
          cases e2
          obtain ⟨as, us, g1, g2, g3, g4⟩ := pairs_at (K := K) le t e3 q2
          obtain ⟨ad, ws, rfl, ha, hr⟩ := RD.seqT h
          cases hr with
          | cons h1 h2 =>
            cases h2 with
            | cons h3 h4 =>
              cases h4
              have := key_at h1 q1
              subst this
              exact ⟨ad :: as, _ :: us, by rw [g1]; rfl, .cons (.of (le _ _ ha)) g2, by simp [g3], .cons h3 g4⟩
        · cases e2
      · cases e
    · cases e
end
section
variable {T : Tx} {xt : Xt} {X : Cx} {W' : WX} {C : Calls} {σ : L2.St} {H : Hp} {D : Ends} {a b o e k : E} {Q : VK}
theorem s_un1 {ev : Sl → Mu → Res W} {f : Mu → W → Res W} (h : tE T xt W' (fun ws m => (ev ws m).bind fun x m => f m x) σ H Q) : tCB (rC1 T xt f) (tCons (tE T xt W' ev) tNil) σ H Q := by
  refine tE_bind (f := fun ws x m => f m x) h fun F ρ m ws v w H1 R S hv A => ?_
  exact ⟨v, rfl, F, ρ, m, w, R, hv, A.imp (fun _ _ _ _ _ _ _ _ z => z) fun _ _ _ _ => trivial⟩
/-! ### dict(pairs) -/
def dictK (m : Mu) (x : W) : Res W := dictR m false x
theorem call_dct (hc : X.calm = true) : CallR X (.type "dict") (rC1 T xt dictK) := by
  rintro pins s σ H xs us Q I rv ⟨x, rfl, F, ρ, m, w, R, hx, A⟩
  replace A : After T xt F ρ (dictR m false w) (KV1 T Q) (fun _ _ _ => True) := A
  unfold dictR at A
  split at A
  · rename_i ps eps
    split at A
    · rename_i ks vs ep
      obtain ⟨g, A⟩ := guard_ok A
      split at A
      · split at A
        · rename_i kys ek
          obtain ⟨ad, ws, rfl, ha, hr⟩ := R.lstH hx eps
          obtain ⟨as, us', e1, e2, e3, e4⟩ := pairs_at (K := X.K) (H := H) R.sub hr ep ek
          subst e1
          obtain ⟨vs', m1, m2, m3⟩ := merge_both (κ := Ky) kyV_inj (ks := []) (vs := []) (xs := []) e4 e3 rfl .nil
          refine call_dictP hc pins s σ H _ us Q I rv ⟨ad, as, (kys.map kyV).zip us', rfl, .inl ha, e2, fun p hp => ?_⟩
          have m1' : mergeK [] ((kys.map kyV).zip us') = ((mergeA [] [] kys vs).1.map kyV).zip vs' := m1
          rw [m1']
          exact fin_obj A R ⟨vs', rfl, m2, m3⟩ hp
        · exact A.elim
      · rename_i q; cases q
    · exact A.elim
  · exact A.elim
theorem s_dict (h : tE T xt W' (fun ws m => evE C ws m (.dict false a)) σ H Q) : tCB (rC1 T xt dictK) (tCons (tE T xt W' fun ws m => evE C ws m a) tNil) σ H Q := by
  simp only [evE] at h
  exact s_un1 (f := dictK) h
theorem s_dicK (h : tE T xt W' (fun ws m => evE C ws m (.dicM false)) σ H Q) : tDNewK σ H Q := by
  obtain ⟨F, ρ, m, ws, R, S, A⟩ := h
  simp only [evE] at A
  exact fun p hp => fin_obj (o := .dK [] []) A R ⟨[], rfl, rfl, .nil⟩ hp
theorem s_dicT (h : tE T xt W' (fun ws m => evE C ws m (.dicM true)) σ H Q) : tDNewT σ H Q := by
  obtain ⟨F, ρ, m, ws, R, S, A⟩ := h
  simp only [evE] at A
  exact fun p hp => fin_obj (o := .dT [] []) A R ⟨[], rfl, rfl, .nil⟩ hp
/-! ### list(..) -/
def listD (m : Mu) (x : W) : Res W := (listR m x).bind fun xs m => .ok (.d (.lst xs)) m
theorem call_lst : CallR X (.type "list") (rC1 T xt listD) := by
  rintro pins s σ H xs us Q I rv ⟨x, rfl, F, ρ, m, w, R, hx, A⟩
  replace A : After T xt F ρ (listD m w) (KV1 T Q) (fun _ _ _ => True) := A
  unfold listD listR at A
  split at A
  · exact A.elim
  · split at A
    · rename_i ys e
      cases w with
      | d y =>
        cases e
        obtain ⟨ad, vs, rfl, ha, h⟩ := RD.seqT hx
        exact call_list_of pins s σ H _ us Q I rv ⟨ad, vs, rfl, .inr (.of (R.sub _ _ ha)), fun p n => fin_lst A R h n⟩
      | kt y => rename_i q; exact (q _ rfl).elim
      | h j => simp only [rd] at e; split at e <;> first | (split at e <;> cases e) | cases e
      | hi j f => simp only [rd] at e; split at e <;> cases e
      | clo _ _ => cases e
    · rename_i ys e
      obtain ⟨ad, vs, rfl, ha, h⟩ := R.lstH hx e
      exact call_list_of pins s σ H _ us Q I rv ⟨ad, vs, rfl, .inl (.inl ha), fun p n => fin_lst A R h n⟩
    · exact A.elim
theorem s_list (h : tE T xt W' (fun ws m => evE C ws m (.list a)) σ H Q) : tCB (rC1 T xt listD) (tCons (tE T xt W' fun ws m => evE C ws m a) tNil) σ H Q := by
  simp only [evE] at h
  exact s_un1 (f := listD) h
theorem rds_rng {F : Hp} {i j : Int} : RDs T F (rgV i j) ((List.range (j - i).toNat).map fun (k : Nat) => Cn.D.int (i + k)) := by
  unfold rgV
  generalize List.range (j - i).toNat = l
  induction l with
  | nil => exact .nil
  | cons a r ih => exact .cons (.int _) ih
theorem s_rngL (h : tE T xt W' (fun ws m => evE C ws m (.rngL a b)) σ H Q) : tLstRg (tRg2 (tE T xt W' fun ws m => evE C ws m a) (tE T xt W' fun ws m => evE C ws m b)) σ H Q := by
  obtain ⟨F, ρ, m, ws, R, S, A⟩ := h
  simp only [evE] at A
  refine ⟨F, ρ, m, ws, R, S, A.bind.imp (fun F1 ρ1 H1 m1 w r1 l1 g1 k x hx => ?_) fun _ _ _ z => z⟩
  refine ⟨F1, ρ1, m1, ws, r1, S.mono l1 g1, k.bind.imp (fun F2 ρ2 H2 m2 u r2 l2 g2 k2 y hy => ?_) fun _ _ _ z => z⟩
  split at k2
  · rename_i i j
    obtain ⟨g, k2⟩ := guard_ok k2
    obtain ⟨g, g5⟩ := dec_and g
    obtain ⟨g, g4⟩ := dec_and g
    obtain ⟨g, g3⟩ := dec_and g
    obtain ⟨g1, g2'⟩ := dec_and g
    have d1 := of_decide_eq_true g1
    have d2 := of_decide_eq_true g2'
    have d3 := of_decide_eq_true g3
    have d4 := of_decide_eq_true g4
    have d5 := of_decide_eq_true g5
    have e1 := RD.intV hx
    have e2 := RD.intV hy
    subst e1 e2
    refine ⟨i, j, rfl, rfl, ⟨by omega, by omega, by omega, by omega, by unfold line at d5; omega⟩, fun q hq => ?_⟩
    exact fin_lst k2 r2 rds_rng hq
  · exact k2.elim
/-! ### [[..]] -/
theorem newU_at {F : Hp} {ρ : Ro} {m : Mu} {k : Nat} {q : Addr × List Addr} {o : Fo} {p : Addr} (R : Rel T F ρ H m) (eq : ρ[k]? = some q) (hk : m[k]? = some (some ⟨.o o, []⟩)) (hp : H p = none) :
    ∃ ρ', Rel T F ρ' (upd H p (.lst [.ref q.1])) ((m.set k none) ++ [some ⟨.lst [.i 0], [some o]⟩]) ∧ RoLe ρ ρ' ∧ ∃ as, ρ'[m.length]? = some (p, as) := by
  have hkl : k < m.length := (List.getElem?_eq_some_iff.mp hk).1
  have R1 := R.alloc (a := p) (ho := .lst []) (ob := .lst []) hp ⟨[], rfl, .nil⟩
  have e1 : (ρ ++ [(p, [])])[m.length]? = some (p, []) := by rw [← R.len, List.getElem?_append_right (Nat.le_refl _)]; simp
  have g1 : (m ++ [some ⟨Ob.lst [], []⟩])[m.length]? = some (some ⟨.lst [], []⟩) := by rw [List.getElem?_append_right (Nat.le_refl _)]; simp
  have eq1 : (ρ ++ [(p, [])])[k]? = some q := by rw [List.getElem?_append_left (by rw [R.len]; exact hkl)]; exact eq
  have hk1 : (m ++ [some ⟨Ob.lst [], []⟩])[k]? = some (some ⟨.o o, []⟩) := by rw [List.getElem?_append_left hkl]; exact hk
  have R2 := R1.adopt1 (n := m.length) (k := k) (by omega) e1 g1 eq1 hk1
  have e2 : ((ρ ++ [(p, [])]).set m.length ((p, ([] : List Addr)).1, (p, ([] : List Addr)).2 ++ [q.1]))[m.length]? = some (p, [q.1]) := List.getElem?_set_self (by simp [R.len])
  have hm : ((m ++ [some (⟨Ob.lst [], []⟩ : Gr)]).set m.length (some { (⟨Ob.lst [], []⟩ : Gr) with inn := ([] : List (Option Fo)) ++ [some o] })).set k none = m.set k none ++ [some (⟨Ob.lst [], [some o]⟩ : Gr)] := by
    rw [List.set_append_right _ _ (Nat.le_refl _)]
    simp [List.set_append_left _ _ hkl]
  rw [hm] at R2
  have g2 : (m.set k none ++ [some ⟨Ob.lst [], [some o]⟩])[m.length]? = some (some ⟨.lst [], [some o]⟩) := by
    rw [List.getElem?_append_right (by simp)]; simp
  have R3 := R2.setRoot (ob := .lst [.i 0]) (ho := .lst [.ref q.1]) e2 g2 ⟨[.ref q.1], rfl, .cons ⟨q.1, rfl, rfl⟩ .nil⟩
  have hm3 : Cn.setRoot (m.set k none ++ [some ⟨Ob.lst [], [some o]⟩]) m.length (.lst [.i 0]) = m.set k none ++ [some ⟨.lst [.i 0], [some o]⟩] := by
    unfold Cn.setRoot grAt
    rw [g2]
    dsimp only
    rw [List.set_append_right _ _ (by simp)]
    simp
  rw [hm3] at R3
  have hH : upd (upd H p (.lst [])) p (.lst [.ref q.1]) = upd H p (.lst [.ref q.1]) := by
    funext b
    by_cases hb : b = p
    · subst hb; rw [upd_same, upd_same]
    · rw [upd_ne hb, upd_ne hb, upd_ne hb]
  have R4 : Rel T F _ (upd (upd H p (.lst [])) p (.lst [.ref q.1])) _ := R3
  rw [hH] at R4
  exact ⟨_, R4, RoLe.snoc.trans (RoLe.setInn e1), _, e2⟩
theorem s_lstU {es : Es} (h : tE T xt W' (fun ws m => evE C ws m (.lstU es)) σ H Q) : tLst (tA T xt W' fun ws m => evEs C ws m es) σ H Q := by
  simp only [evE] at h
  refine tA_bind (f := fun _ us m => newU m us) h fun F ρ m ws vs us H1 R S hv A => ?_
  unfold newU at A
  split at A
  · rename_i k
    split at A
    · rename_i o hk
      cases hv with
      | cons h1 h2 =>
        cases h2
        obtain ⟨q, eq, rfl⟩ := h1
        refine ⟨by show 1 ≤ sizeLine; decide, fun p hp => ?_⟩
        obtain ⟨ρ', R', le, as, e⟩ := newU_at R eq (grAt_some hk) hp
        exact A F ρ' _ R' Le.rfl' le _ ⟨_, e, rfl⟩
    · exact A.elim
  · exact A.elim
/-! ### isinstance -/
def tyS : Ty → String
  | .list => "list"
  | .tuple => "tuple"
  | .int => "int"
  | .str => "str"
theorem kit_all {K : PySem.W.Frag} (a b : Ty) : PySem.W.kitOne K (.type (tyS a)) (.type (tyS b)) = some (a == b) := by
  cases a <;> cases b <;> exact kit_ty (by decide +kernel)
def isiW (t : Ty) (m : Mu) (w : W) : Res W := blR (isiR m t w)
theorem call_isiR (t : Ty) : CallR X (.builtin "isinstance") (fun xs H Q => ∃ x, xs = [x, .ty (tyS t)] ∧ r1 T xt (isiW t) x H Q) := by
  rintro pins s σ H xs us Q I rv ⟨x, rfl, F, ρ, m, w, R, hx, A⟩
  replace A : After T xt F ρ (isiW t m w) (KV1 T Q) (fun _ _ _ => True) := A
  have fin : ∀ {t' : Ty}, After T xt F ρ (blR (.ok (t == t') m)) (KV1 T Q) (fun _ _ _ => True) → TyX X.K H x (.type (tyS t')) → wpAny (model X.prog X.w) X.A (call (.builtin "isinstance") us) (EP X pins σ Q) X.xe s := by
    intro t' A' ty
    refine call_isi pins s σ H _ us Q I rv ⟨x, .ty (tyS t), .type (tyS t'), .type (tyS t), (t' == t), rfl, .ty _, ty, kit_all t' t, ?_⟩
    have e : (t == t') = (t' == t) := by cases t <;> cases t' <;> rfl
    rw [← e]
    exact fin_old (x := .d (.bl (t == t'))) A' R (.bl _)
  unfold isiW isiR at A
  split at A
  · rename_i y
    cases hx with
    | lst ha hr =>
      refine fin (t' := .list) A ?_
      rcases ha with ha | ⟨ob, ha⟩
      · exact .base (.lst (R.sub _ _ ha))
      · exact .base (.frz (R.sub _ _ ha))
    | tup ha hr => exact fin (t' := .tuple) A (.base (.tup (R.sub _ _ ha)))
    | int i => exact fin (t' := .int) A (.base (.int i))
    | str cs => exact fin (t' := .str) A (.base (.str _))
    | _ => exact A.elim
  · exact A.elim
theorem s_isi {t : Ty} (h : tE T xt W' (fun ws m => evE C ws m (.isi t a)) σ H Q) : tCB (fun xs H Q => ∃ x, xs = [x, .ty (tyS t)] ∧ r1 T xt (isiW t) x H Q) (tCons (tE T xt W' fun ws m => evE C ws m a) (tCons (tC (.ty (tyS t))) tNil)) σ H Q := by
  simp only [evE] at h
  refine tE_bind (f := fun ws x m => isiW t m x) h fun F ρ m ws v w H1 R S hv A => ?_
  exact ⟨v, rfl, F, ρ, m, w, R, hv, A.imp (fun _ _ _ _ _ _ _ _ z => z) fun _ _ _ _ => trivial⟩
/-! ### d[k] = v -/
theorem q_setx (h : tS T xt W' (fun ws m => evS C ws m (.setx o k e)) D σ H) : sDPut (tE T xt W' fun ws m => evE C ws m o) (tE T xt W' fun ws m => evE C ws m k) (tE T xt W' fun ws m => evE C ws m e) D σ H := by
  obtain ⟨F, ρ, m, ws, R, S, A⟩ := h
  simp only [evS] at A
  refine ⟨F, ρ, m, ws, R, S, (A.toS S).imp (fun F1 ρ1 H1 m1 w R1 l1 g1 A1 v hv => ?_) fun _ _ _ z => z⟩
  have S1 := S.mono l1 g1
  refine ⟨F1, ρ1, m1, ws, R1, S1, (A1.toS S1).imp (fun F2 ρ2 H2 m2 u R2 l2 g2 A2 x hx => ?_) fun _ _ _ z => z⟩
  have S2 := S1.mono l2 g2
  refine ⟨F2, ρ2, m2, ws, R2, S2, (A2.toS S2).imp (fun F3 ρ3 H3 m3 z R3 l3 g3 A3 y hy => ?_) fun _ _ _ z => z⟩
  have S3 := S2.mono l3 g3
  have hx3 := hx.mono l3 g3
  have hv3 := (hv.mono l2 g2).mono l3 g3
  unfold stx at A3
  split at A3
  · rename_i ks vs kd xd ef
    split at A3
    · rename_i ky ek
      unfold stKy at A3
      obtain ⟨g, A4⟩ : decide (ks.length < line) = true ∧ AfterS T xt W' D F3 ρ3 σ ((match putA ky xd ks vs with | some us => Res.ok () (setFo m3 (.dK ks us) u) | none => .ok () (setFo m3 (.dK (ks ++ [ky]) (vs ++ [xd])) u)).toS ws fun _ m => .next ws m) := by
        cases hg : decide (ks.length < line) with
        | true => rw [hg] at A3; exact ⟨rfl, A3⟩
        | false => rw [hg] at A3; exact A3.elim
      obtain ⟨ad, ho, rfl, h1, ⟨us, rfl, hl, hr⟩, h3⟩ := R3.fo hx3 ef
      have := key_at hy ek
      subst this
      refine ⟨ad, _, rfl, DPut.k h1 (by rw [List.length_zip, List.length_map]; have := of_decide_eq_true g; rw [line_eq]; omega), ?_⟩
      rcases put_both kyV_inj ky hv3 hl hr with ⟨us2, ys, e1, e2, e3, e4⟩ | ⟨e1, e2, e3, e4⟩
      · rw [e2]
        rw [e1] at A4
        exact A4 F3 ρ3 _ σ (h3 _ _ ⟨us2, rfl, e3, e4⟩) Le.rfl' .rfl' S3
      · rw [e2]
        rw [e1] at A4
        exact A4 F3 ρ3 _ σ (h3 _ _ ⟨_, rfl, e3, e4⟩) Le.rfl' .rfl' S3
    · exact A3.elim
  · rename_i ks vs kd xd ef
    split at A3
    · rename_i kt ek
      unfold stKt at A3
      obtain ⟨g, A4⟩ : decide (ks.length < line) = true ∧ AfterS T xt W' D F3 ρ3 σ ((match putA kt xd ks vs with | some us => Res.ok () (setFo m3 (.dT ks us) u) | none => .ok () (setFo m3 (.dT (ks ++ [kt]) (vs ++ [xd])) u)).toS ws fun _ m => .next ws m) := by
        cases hg : decide (ks.length < line) with
        | true => rw [hg] at A3; exact ⟨rfl, A3⟩
        | false => rw [hg] at A3; exact A3.elim
      obtain ⟨ad, ho, rfl, h1, ⟨us, rfl, hl, hr⟩, h3⟩ := R3.fo hx3 ef
      obtain ⟨b, rfl, hb⟩ := ktup_at hy ek
      refine ⟨ad, _, rfl, DPut.t h1 (R3.sub _ _ hb) (by rw [List.length_zip, List.length_map]; have := of_decide_eq_true g; rw [line_eq]; omega), ?_⟩
      rcases put_both ktV_inj kt hv3 hl hr with ⟨us2, ys, e1, e2, e3, e4⟩ | ⟨e1, e2, e3, e4⟩
      · rw [e2]
        rw [e1] at A4
        exact A4 F3 ρ3 _ σ (h3 _ _ ⟨us2, rfl, e3, e4⟩) Le.rfl' .rfl' S3
      · rw [e2]
        rw [e1] at A4
        exact A4 F3 ρ3 _ σ (h3 _ _ ⟨_, rfl, e3, e4⟩) Le.rfl' .rfl' S3
    · exact A3.elim
  · exact A3.elim
end
end Cn

/-! # an exception without a field: raise C() -/
namespace Cn
open PySem PySem.Spec PyProof.Rows L2
/-- what its __init__ leaves: all as it was -/
def spB (C : Addr) : Sp := fun vs H Q _ => ∃ a : Addr, vs = [.ref a] ∧ H a = some (exo a C none) ∧ Q .non H
section
variable {X : Cx} {pins : List (Addr × Obj)} {σ : L2.St} {H1 : Hp}
theorem bare_end {hp hp2 h2 : Heap} {g1 g2 : Array GenState} {d1 d2 : Drawn} {t1 t2 : Nat} {os1 os2 : OsState} {a C : Addr} (I1 : Inv X pins σ H1 ⟨hp, g1, d1, t1, os1⟩) (ha : hp.objs.size ≤ a)
    (k : ∀ b o, hp.get? b = some o → hp2.get? b = some o) (un : Un (frs X.stack) [] (upd H1 a (exo a C none)) (upd H1 a (exo a C none)) hp2 h2) (hok : HOk X.prog X.w (upd H1 a (exo a C none)) h2) (eos : os2 = os1) (bare : AllBare g2) :
    ∃ (t0 : Addr) (G : Heap), Inv X pins σ H1 ⟨G, g2, d2, t2, os2⟩ ∧ (∀ b o, G.get? b = some o → h2.get? b = some o) ∧ G.get? a = none ∧
      h2.get? a = some ({ cls := .ref C, dict := none, data := .fields #[.ref t0, .none, .none, .none, .bool false, .none] } : Obj) ∧ H1 a = none := by
  have fresh : H1 a = none := I1.hok.fresh ha
  obtain ⟨t0, obj⟩ := exo_at hok (upd_same : (upd H1 a (exo a C none)) a = some (exo a C none))
  obtain ⟨G, inG, outG⟩ := restrict h2 fun b => decide (b ≠ a)
  have same : ∀ b, b ≠ a → G.get? b = h2.get? b := fun b nb => inG b (decide_eq_true nb)
  have gone : G.get? a = none := outG a (by simp)
  have older : ∀ {b : Addr} {o : Obj}, hp.get? b = some o → b ≠ a := fun {b o} e => Nat.ne_of_lt (Nat.lt_of_lt_of_le (Heap.lt_size e) ha)
  have lower : ∀ {b : Addr}, b ≠ a → (upd H1 a (exo a C none)) b = H1 b := fun {b} nb => upd_ne nb
  have U : Un (frs X.stack) [] H1 H1 hp G :=
    ⟨fun b o e n f x => (same b (older e)).trans (un.keep b o (k b o e) ((lower (older e)).trans n) f x), fun b o e n f x => by
      obtain ⟨sl, q⟩ := un.slot b o (k b o e) ((lower (older e)).trans n) f x
      exact ⟨sl, (same b (older e)).trans q⟩, fun _ _ _ n _ => n, fun b o e x => by
      obtain ⟨o', q⟩ := un.there b o (k b o e) x
      exact ⟨o', (same b (older e)).trans q⟩, fun _ _ e => e, fun _ _ _ e => e, fun b ps e => ⟨#[], by rw [e]; simp⟩⟩
  have hok1 : HOk X.prog X.w H1 G := fun b u e => by
    have nb : b ≠ a := ne_of_none e fresh
    have up : ∀ {c : Addr} {z : HO}, (upd H1 a (exo a C none)) c = some z → exo a C none ≠ z → c ≠ a ∧ H1 c = some z := fun {c z} q d => by
      by_cases h : c = a
      · rw [h, upd_same] at q
        exact absurd (Option.some.inj q) d
      · exact ⟨h, by rw [← lower h]; exact q⟩
    refine (hok b u ((lower nb).trans e)).stay (fun c v hc y => ?_) (fun c hc => (up hc exo_own).2) fun c xs hc => (up hc exo_tup).2
    have nc : c ≠ a := by
      rcases hc with hc | hc
      · rw [hc]; exact nb
      · exact (up hc exo_own).1
    exact (same c nc).trans y
  refine ⟨t0, G, I1.call' (ch := []) eos U hok1 bare (fun b z => absurd z (by simp)), fun b o e => ?_, gone, obj, fresh⟩
  by_cases nb : b = a
  · rw [nb, gone] at e; cases e
  · exact (same b nb).symm.trans e
theorem pmk_bare {CX : CXT} {x : Str} {C fI : Addr} {k : Nat} {fd : FuncData} {ps : List Str} {p pos : Pos} (T : OexC X.K C) (iC : PySem.W.findIn X.K (.ref C) "__init__" = some (some (.ref fI))) (tI : PySem.W.typeIn X.K (.ref fI) = some (.type "function"))
    (F1 : FnOk X.prog X.w X.K X.mg X.base CX k fI fd ps (spB C)) (hr : Room (k + 1) X.A) (hb : Binds X.K fd ps []) (hx : Passes CX X (fun _ _ _ => False)) (hg : Gl X x) (hm : X.mg x = some (.ref C)) (hdb : (x == ("__debug__" : Str)) = false) :
    L2N.PMk X (.Call (.Name x p) [] [] pos) (fun _ H Q => Q (.ref C) none H) := by
  intro pins s σ H Q I q0
  obtain ⟨nm, qn, N, bs, bm, sn, sub, ab, col, dd, k0, k1, k2, k3, k5, hC, hbm⟩ := T.cls
  refine wpAny_Call_Name_kw (ld_glob I hg hm ?_ hdb)
  refine PySem.W.callWith_K0 I.kIn T.kC ?_
  obtain ⟨hp, g, dr, tk, os⟩ := s
  have big : hp.objs.size ≤ hp.objs.size + 1 := Nat.le_succ _
  have free : H (hp.objs.size + 1) = none := I.hok.fresh big
  have grow : ∀ b o, hp.get? b = some o → ((hp.push (PySem.W.kdv_tup [])).push (PySem.HandSPX.excO C hp.objs.size)).get? b = some o := fun b o e => Heap.get?_push_of_some _ (Heap.get?_push_of_some _ e)
  have made : ((hp.push (PySem.W.kdv_tup [])).push (PySem.HandSPX.excO C hp.objs.size)).get? (hp.objs.size + 1) = some (PySem.HandSPX.excO C hp.objs.size) := by heap_get
  have I2 : Inv X pins σ (upd H (hp.objs.size + 1) (exo (hp.objs.size + 1) C none)) ⟨(hp.push (PySem.W.kdv_tup [])).push (PySem.HandSPX.excO C hp.objs.size), g, dr, tk, os⟩ := I.laid grow big (exo_ok made)
  have prom : spB C [V.ref (hp.objs.size + 1)] (upd H (hp.objs.size + 1) (exo (hp.objs.size + 1) C none)) (fun v H2 => v = .non ∧ H2 = upd H (hp.objs.size + 1) (exo (hp.objs.size + 1) C none)) (fun _ _ _ => False) := ⟨_, rfl, upd_same, rfl, rfl⟩
  have many : ([Value.ref (hp.objs.size + 1)] ++ []).length = ps.length := (F1.len _ _ _ _ prom)
  have bnd := hb ⟨(hp.push (PySem.W.kdv_tup [])).push (PySem.HandSPX.excO C hp.objs.size), g, dr, tk, os⟩ [Value.ref (hp.objs.size + 1)] I2.kIn many
  rw [List.append_nil] at bnd
  have ran := F1.run _ X.stack _ _ ⟨[Value.ref (hp.objs.size + 1)], []⟩ [Value.ref (hp.objs.size + 1)] [V.ref (hp.objs.size + 1)] _ (fun _ _ _ => False) (hr.make C [] []) (I2.env0.make C [] []) bnd (.cons (show RelV (V.ref (hp.objs.size + 1)) (Value.ref (hp.objs.size + 1)) from rfl) .nil) prom
  refine wpAny_call (PySem.HandSPX.call_own PySem.F.excBase_ValueError (fun Y => PySem.HandSPX.refsVE_contains Y bm hbm) (I.kIn _ _ hC) (PySem.W.looks_findIn I.kIn iC) (fun self => PySem.W.bind_fn I.kIn self tI) (Nat.zero_le _) (codeAny_mono ran fun r s' fin => ?_))
  cases r with
  | error er => exact hx pins σ _ _ er s' I2 fin
  | ok fl =>
    cases fl with
    | ret u =>
      obtain ⟨v, H2, e2, b2, un2, hok2, rv, rfl, rfl⟩ := fin
      obtain ⟨h2, g2, dd2, tt2, os'⟩ := s'
      refine ⟨rv, ?_⟩
      obtain ⟨t0, G, J, sub2, gone, obj, nn⟩ := bare_end (d2 := dd2) (t2 := tt2) I big grow un2 hok2 e2 b2
      exact ⟨_, _, _, ⟨G, g2, dd2, tt2, os'⟩, H, .ref C, none, rfl, J, sub2, gone, obj, ⟨rfl, rfl, fun vs e => by cases e; rfl⟩, rfl, rfl, nn, rfl, b2, raises_own T.exC T.tyC, q0⟩
    | next => exact False.elim fin
    | brk => exact False.elim fin
    | cont => exact False.elim fin
end
end Cn

/-! # exceptions without a context: what is told of them is told of any -/
namespace Cn
open PySem PySem.Spec PyProof.Rows L2
theorem tracedN {h B : Heap} {a : Addr} {cls : Value} {d : Option Addr} {fl : Value} (x : HandSPX.TracedZ h B a (L2N.Zn cls d) fl) : HandSPX.TracedZ h B a (Zc cls d) fl := by
  obtain ⟨oe, vs, Tb, oT, ts, h1, h2, r⟩ := x
  exact ⟨oe, vs, Tb, oT, ts, h1, h2.zc, r⟩
theorem flyingN {h B : Heap} {l : List Env} {a : Addr} {cls : Value} {d : Option Addr} (x : HandSPX.FlyingZ B l a (L2N.Zn cls d) h) : HandSPX.FlyingZ B l a (Zc cls d) h := ⟨x.1, x.2.1, x.2.2.1, tracedN x.2.2.2⟩
theorem cxN {P : Program} {w : World} {outer : List Env} {H : Hp} {s : Shared} {E : XK} {u : Value} {s' : Shared} (c : L2N.CX P w outer H s E u s') : L2.CX P w outer H s E u s' := by
  obtain ⟨a, B, H', cls, d, e, fl, r⟩ := c
  exact ⟨a, B, H', cls, d, e, flyingN fl, r⟩
theorem takesN {X : Cx} {W' : WX} (t : L2.Takes X W') : L2N.Takes X W' := fun u s' ⟨a, B, sI, pins, σ, H, cls, d, e, I, nb, up, sky, r⟩ =>
  t u s' ⟨a, B, sI, pins, σ, H, cls, d, e, I, nb, up, by
    rcases sky with ⟨h1, h2, h3, oe, vs, h4, h5, h6⟩ | fl | ⟨h1, h2, h3, h4⟩
    · exact .inl ⟨h1, h2, h3, oe, vs, h4, h5.zc, h6⟩
    · exact .inr (.inl (flyingN fl))
    · exact .inr (.inr ⟨h1, h2, h3, tracedN h4⟩), r⟩
/-- C(e, ..), C's own __init__ keeping sp: what is made has no context -/
theorem pmk_oexN {X : Cx} {e : Expr} {es : List Expr} {ta : TA} {CX : CXT} {x : Str} {C fI : Addr} {k : Nat} {fd : FuncData} {ps : List Str} {sp : Sp} {p pos : Pos} (T : OexC X.K C) (iC : PySem.W.findIn X.K (.ref C) "__init__" = some (some (.ref fI))) (tI : PySem.W.typeIn X.K (.ref fI) = some (.type "function"))
    (F1 : FnOk X.prog X.w X.K X.mg X.base CX k fI fd ps sp) (hr : Room (k + 1) X.A) (hb : Binds X.K fd ps []) (hx : Passes CX X (fun _ _ _ => False)) (hg : Gl X x) (hm : X.mg x = some (.ref C)) (ha : PA X (e :: es) ta)
    (hdb : (x == ("__debug__" : Str)) = false) (he : starEach (e :: es) X.env = (false, eval e X.env) :: starEach es X.env) (hpl : (backTo pos (starEach es X.env)).any (·.1) = false) :
    L2N.PMk X (.Call (.Name x p) (e :: es) [] pos) (tMkO C sp [] ta) := by
  intro pins s σ H Q I q0
  obtain ⟨nm, qn, N, bs, bm, sn, sub, ab, col, dd, k0, k1, k2, k3, k5, hC, hbm⟩ := T.cls
  refine wpAny_Call_Name_kw (ld_glob I hg hm ?_ hdb)
  refine PySem.W.callWith_K (h₀ := X.base) I.ok.mod.kin T.kC (thn (ha.run pos pins s σ H _ I q0) fun us s1 ⟨vs, H1, I1, rv, many, prom⟩ => ⟨I1.kIn, ?_⟩) he hpl
  obtain ⟨hp, g, dr, tk, os⟩ := s1
  have big : hp.objs.size ≤ hp.objs.size + 1 := Nat.le_succ _
  have prom := prom (hp.objs.size + 1) (I1.hok.fresh big)
  rw [List.append_nil] at prom
  have grow : ∀ b o, hp.get? b = some o → ((hp.push (PySem.W.kdv_tup us)).push (PySem.HandSPX.excO C hp.objs.size)).get? b = some o := fun b o z => Heap.get?_push_of_some _ (Heap.get?_push_of_some _ z)
  have made : ((hp.push (PySem.W.kdv_tup us)).push (PySem.HandSPX.excO C hp.objs.size)).get? (hp.objs.size + 1) = some (PySem.HandSPX.excO C hp.objs.size) := by heap_get
  have I2 : Inv X pins σ (upd H1 (hp.objs.size + 1) (exo (hp.objs.size + 1) C none)) ⟨(hp.push (PySem.W.kdv_tup us)).push (PySem.HandSPX.excO C hp.objs.size), g, dr, tk, os⟩ := I1.laid grow big (exo_ok made)
  have rv2 : Vals (V.ref (hp.objs.size + 1) :: vs) (Value.ref (hp.objs.size + 1) :: us) := .cons (show RelV (V.ref (hp.objs.size + 1)) (Value.ref (hp.objs.size + 1)) from rfl) rv
  have len2 : (Value.ref (hp.objs.size + 1) :: us).length = ps.length := by rw [← rv2.length]; exact F1.len _ _ _ _ prom
  have bnd := hb ⟨(hp.push (PySem.W.kdv_tup us)).push (PySem.HandSPX.excO C hp.objs.size), g, dr, tk, os⟩ (Value.ref (hp.objs.size + 1) :: us) I2.kIn (by rw [List.append_nil]; exact len2)
  rw [List.append_nil] at bnd
  have few : us.length ≤ sizeLine := by
    rw [← Paired.length rv, sizeLine_eq]
    omega
  have ran := F1.run _ X.stack _ _ ⟨Value.ref (hp.objs.size + 1) :: us, []⟩ (Value.ref (hp.objs.size + 1) :: us) (V.ref (hp.objs.size + 1) :: vs) _ (fun _ _ _ => False) (hr.make C us []) (I2.env0.make C us []) bnd rv2 prom
  refine wpAny_call (PySem.HandSPX.call_own PySem.F.excBase_ValueError (fun Y => PySem.HandSPX.refsVE_contains Y bm hbm) (I1.kIn _ _ hC) (PySem.W.looks_findIn I1.kIn iC) (fun self => PySem.W.bind_fn I1.kIn self tI) few (codeAny_mono ran fun r s' fin => ?_))
  cases r with
  | error er => exact hx pins σ _ _ er s' I2 fin
  | ok fl =>
    cases fl with
    | ret u =>
      obtain ⟨v, H2, e2, b2, un2, hok2, rv3, rfl, d, fs, ea, ed, hd1, q2⟩ := fin
      obtain ⟨h2, g2, dd2, tt2, os'⟩ := s'
      refine ⟨rv3, ?_⟩
      obtain ⟨t0, G, J, sub2, gone, obj, nn⟩ := mk_end0 (d2 := dd2) (t2 := tt2) I1 big grow un2 hok2 e2 b2 ea ed hd1
      exact ⟨_, _, _, ⟨G, g2, dd2, tt2, os'⟩, _, .ref C, some d, rfl, J, sub2, gone, obj, ⟨rfl, rfl, fun vs e => by cases e; rfl⟩, rfl, rfl, nn, rfl, b2, raises_own T.exC T.tyC, q2⟩
    | next => exact False.elim fin
    | brk => exact False.elim fin
    | cont => exact False.elim fin
/-- the mode of a def: what it raises has no context -/
def cxM (b : Bool) (P : Program) (w : World) : CXT := if b then L2N.CX P w else L2.CX P w
theorem passM {X : Cx} {W' : WX} {b : Bool} (t2 : b = false → L2.Takes X W') (tN : L2N.Takes X W') (σ : L2.St) : PassesAt (cxM b X.prog X.w) X σ (WE W' σ) := by
  cases b with
  | true => exact L2N.passAt tN σ
  | false => exact passAt (t2 rfl) σ
end Cn

/-! # the matched expressions keep what the evaluator says -/
namespace Cn
open PySem PySem.Spec PyProof.Rows L2
/-- a method's call, on one line -/
theorem meth_eval {o : Expr} {nm : Str} {p2 p5 : Pos} {es : List Expr} {env : Env} (hb : attributeBase o nm env (eval o env) = eval o env) (hl : (p2.endLine == p5.line) = true) (hf : methodCallForm es.length (backTo p5 (starEach es env)) (backToKw p5 (keywordEach [] env)) = true) :
    eval (.Call (.Attribute o nm p2) es [] p5) env = (do
      let ov ← eval o env
      standAt p2.atName
      let (f, first) ← holding [ov] (getMethod ov nm (do return (← importBound o env).getD true))
      callWith p5 f first (backTo p5 (starEach es env)) (backToKw p5 (keywordEach [] env))) := by
  show (do
    let ov ← attributeBase o nm env (eval o env)
    standAt p2.atName
    methodCall o nm p2 p5 env ov (es.length + ([] : List Keyword).length) (backTo p5 (starEach es env)) (backToKw p5 (keywordEach [] env))) = _
  have e2 : methodCallPos true o env p2 p5 = pure p5 := by
    unfold methodCallPos
    rw [hl]
    rfl
  have e3 : ∀ ov, methodCall o nm p2 p5 env ov (es.length + ([] : List Keyword).length) (backTo p5 (starEach es env)) (backToKw p5 (keywordEach [] env)) = (do
      let (f, first) ← holding [ov] (getMethod ov nm (do return (← importBound o env).getD true))
      callWith p5 f first (backTo p5 (starEach es env)) (backToKw p5 (keywordEach [] env))) := by
    intro ov
    unfold methodCall calleeOf
    rw [show es.length + ([] : List Keyword).length = es.length from rfl, hf, e2]
    rfl
  rw [hb]
  simp only [e3]
structure CtxE (C : Calls) (xt : Xt) (Γ : Gam) (T : Tx) (X : Cx) (W' : WX) : Prop where
  hK : X.K = T.K
  hN : X.N = Γ.N
  nd : Γ.N.Nodup
  sc : X.env.scope = Γ.sc
  calm : X.calm = true
  un : X.A.units + 66 < cLine
  fa : Γ.fa = true → ∀ x, X.fn x = true
  tkN : L2N.Takes X W'
  tk2 : Γ.n = false → L2.Takes X W'
  nums : ∀ x i, Γ.tb.nums.lookup x = some i → ∃ u, X.mg x = some u ∧ RelV (.int i) u
  tups : ∀ p ∈ Γ.tb.tups, ∃ v u, X.mg p.1 = some u ∧ RelV v u ∧ RK T.K v p.2
  free : ∀ x ∈ Γ.tb.free, X.mg x = none
  dics : ∀ x ps, Γ.tb.dics.lookup x = some ps → ∃ a, X.mg x = some (.ref a) ∧ diB X.K a ps = true
  txts : ∀ x cs, Γ.tb.txts.lookup x = some cs → ∃ u, X.mg x = some u ∧ RelV (.str (strV cs)) u
  dicS : ∀ x ps, Γ.tb.dicS.lookup x = some ps → ∃ a es n, X.mg x = some (.ref a) ∧ KDict X.K X.w a es n ∧ dsB X.K a ps = true
  cls : ∀ c y, Γ.tb.cn[c]? = some (some y) → ClOk X.K T c ∧ T.fn c = Γ.tb.cf.getD c [] ∧ X.mg y = some (.ref (T.cad c)) ∧ PySem.W.makesIn X.K (T.cad c) = true ∧ PySem.W.keepIn X.K (.ref (T.cad c)) = true
  met : ∀ f c n, Γ.tb.mt[f]? = some (some (c, n)) → ∃ a fd ps k, Meth X.K (T.cad c) n a ∧ Binds X.K fd ps [] ∧ Room (k + 1) X.A ∧ FnOk X.prog X.w X.K X.mg X.base (cxM (Γ.tb.md.getD f false) X.prog X.w) k a fd ps (spA T xt (C f))
  cal : ∀ f x, Γ.tb.dn[f]? = some (some x) → ∃ a fd ps k, X.mg x = some (.ref a) ∧ PySem.W.keepIn X.K (.ref a) = true ∧ Binds X.K fd ps [] ∧ Room k X.A ∧ FnOk X.prog X.w X.K X.mg X.base (cxM (Γ.tb.md.getD f false) X.prog X.w) k a fd ps (spA T xt (C f))
section
variable {C : Calls} {xt : Xt} {Γ : Gam} {T : Tx} {X : Cx} {W' : WX}
theorem CtxE.wi (G : CtxE C xt Γ T X W') (s : Hp) : CtxE C xt Γ (T.wi s) X W' := ⟨G.hK, G.hN, G.nd, G.sc, G.calm, G.un, G.fa, G.tkN, G.tk2, G.nums, G.tups, G.free, G.dics, G.txts, G.dicS, (fun c y h => ⟨⟨(G.cls c y h).1.cls, (G.cls c y h).1.na, (G.cls c y h).1.nd, (G.cls c y h).1.short⟩, (G.cls c y h).2⟩), G.met, G.cal⟩
theorem CtxE.blk (G : CtxE C xt Γ T X W') (s : Shared) (H : Hp) (scope : Scope) (Ca : Addr) (cl : List (Str × Addr)) (fp : List Addr) : CtxE C xt (Γ.blk scope) T (X.blk s H scope (compEnvC scope cl Ca X.env) fp) WF := by
  refine ⟨G.hK, G.hN, G.nd, ?_, G.calm, G.un, (fun h => nomatch h), (fun u s' x => ?_), (fun _ u s' x => ?_), G.nums, G.tups, G.free, G.dics, G.txts, G.dicS, G.cls, G.met, G.cal⟩
  · show relabel scope X.env = blkSc scope Γ.sc
    rw [← G.sc]; rfl
  · obtain ⟨_, _, _, _, _, _, _, _, _, _, _, _, _, _, _, _, z⟩ := x
    exact z.elim
  · obtain ⟨_, _, _, _, _, _, _, _, _, _, _, _, _, _, _, _, z⟩ := x
    exact z.elim
theorem star_cons {e : Expr} {es : List Expr} {env : Env} (h : nst e = true) : starEach (e :: es) env = (false, eval e env) :: starEach es env := by
  cases e <;> first | rfl | cases h
theorem okN_d {y : Str} (h : okN y = true) : (y == ("__debug__" : Str)) = false ∧ (y == ("__classdict__" : Str)) = false ∧ y ≠ ("__name__" : Str) := by
  unfold okN at h
  obtain ⟨h, h3⟩ := dec_and h
  obtain ⟨h1, h2⟩ := dec_and h
  exact ⟨by simpa using h1, by simpa using h2, of_decide_eq_true h3⟩
theorem vis_of (G : CtxE C xt Γ T X W') {y : Str} (h : Γ.vis y = true) : Vis X.env.scope y := by
  unfold Gam.vis at h
  unfold Vis
  rw [G.sc]
  split at h <;> first | (rename_i e; rw [e]; simp) | cases h
theorem gl_of (G : CtxE C xt Γ T X W') {y : Str} (h : Γ.gl y = true) : Gl X y := by
  unfold Gam.gl at h
  show X.env.scope.names.lookup y = some .globalImplicit
  rw [G.sc]
  split at h <;> first | (rename_i e; exact e) | cases h
theorem tgt_of (G : CtxE C xt Γ T X W') {y : Str} (h : Γ.tgt y = true) : L2.Loc X.env.scope y ∧ (X.fn y = true ∨ X.env.scope.names.lookup y = some .local) := by
  unfold Gam.tgt at h
  unfold L2.Loc
  rw [G.sc]
  split at h
  · rename_i e; rw [e]; simp
  · rename_i e; rw [e]; exact ⟨.inr rfl, .inl (G.fa h y)⟩
  · cases h
theorem bi_of (G : CtxE C xt Γ T X W') {y x : Str} (h : Γ.bi y x = true) : y = x ∧ Gl X y ∧ X.mg y = none ∧ okN y = true := by
  unfold Gam.bi at h
  obtain ⟨h, h4⟩ := dec_and h
  obtain ⟨h, h3⟩ := dec_and h
  obtain ⟨h1, h2⟩ := dec_and h
  exact ⟨of_decide_eq_true h1, gl_of G h2, G.free y (by simpa using h3), h4⟩
theorem slot_of (G : CtxE C xt Γ T X W') {i : Nat} {y : Str} (h : Γ.N[i]? = some y) : X.N[i]? = some y := by rw [G.hN]; exact h
theorem nd_of (G : CtxE C xt Γ T X W') : X.N.Nodup := by rw [G.hN]; exact G.nd
theorem nt_is {e : Expr} {env : Env} (h : nt e = true) : ∀ whole, isTrue e env whole = (do let v ← whole; standAt e.pos; holding [v] (truthy v)) := by
  intro whole
  cases e <;> first | rfl | skip
  · cases h
  · rename_i op x p
    cases op <;> first | rfl | cases h
  · cases h
  · cases h
theorem nsl_ix {b : Expr} (h : nsl b = true) : PlainIx b := by
  intro o i
  cases b <;> first | rfl | cases h
theorem nset_bh {b : Expr} (h : nset b = true) (op : CmpOp) : behindInMarks op b = false := by
  cases b <;> first | rfl | cases h
theorem nset_fold {b : Expr} (h : nset b = true) (env : Env) : ∀ x, foldedSetIterable b env x = pure x := by
  intro x
  cases b <;> first | rfl | cases h
theorem nsup_at {o : Expr} {n : Str} {env : Env} (h : nsup o = true) : attributeBase o n env (eval o env) = eval o env := by
  cases o <;> first | rfl | cases h
theorem lastM {op op' : CmpOp} {b c : Expr} (h : nset c = true) : lastMarks [op, op'] [b, c] = false := nset_bh h op'
theorem mEs_star : ∀ {es : Es} {xs : List Expr} {pos : Pos} {env : Env}, mEs Γ es xs = true → (backTo pos (starEach xs env)).any (·.1) = false
  | .nil, xs, pos, env, h => by
    unfold mEs at h
    cases xs with
    | nil => rfl
    | cons _ _ => cases h
  | .cons e es, xs, pos, env, h => by
    unfold mEs at h
    cases xs with
    | nil => cases h
    | cons x r =>
      obtain ⟨h, h3⟩ := dec_and h
      obtain ⟨h1, h2⟩ := dec_and h
      rw [star_cons h1]
      have := mEs_star (es := es) (pos := pos) (env := env) h3
      simp only [backTo, List.map_cons, List.any_cons, Bool.false_or] at this ⊢
      exact this
theorem mNames_of (G : CtxE C xt Γ T X W') : ∀ {is : List Nat} {es : List Expr}, mNames Γ is es = true → PGs X es (gIs is) ∧ (assignEach es X.env).length = is.length ∧ (assignEach es X.env).findIdx? (·.1) = none
  | [], es, h => by
    unfold mNames at h
    cases es with
    | nil => exact ⟨pgs_nil, rfl, rfl⟩
    | cons _ _ => cases h
  | i :: r, es, h => by
    unfold mNames at h
    split at h
    · rename_i y p s
      obtain ⟨h, h3⟩ := dec_and h
      obtain ⟨h1, h2⟩ := dec_and h
      obtain ⟨q1, q2, q3⟩ := mNames_of G h3
      obtain ⟨t1, t2⟩ := tgt_of G h2
      refine ⟨pgs_cons (pg_name (nd_of G) (slot_of G (of_decide_eq_true h1)) t1 t2) q1 rfl, ?_, ?_⟩
      · show (_ :: assignEach s X.env).length = _
        rw [List.length_cons, q2]; rfl
      · show List.findIdx? _ (_ :: assignEach s X.env) = none
        rw [List.findIdx?_cons, q3]; rfl
    · cases h
theorem mTg_of (G : CtxE C xt Γ T X W') {g : Tg} {pe : Expr} (h : mTg Γ g pe = true) : PG X pe (gTg X.K g) := by
  unfold mTg at h
  split at h
  · split at h
    · obtain ⟨h1, h2⟩ := dec_and h
      obtain ⟨t1, t2⟩ := tgt_of G h2
      exact pg_name (nd_of G) (slot_of G (of_decide_eq_true h1)) t1 t2
    · cases h
  · split at h
    · obtain ⟨q1, q2, q3⟩ := mNames_of G h
      exact pg_tup G.calm q1 q2 q3
    · cases h
theorem own_snd (N : List Str) (is : List Nat) : (ownOf N is).map (·.2) = is := by
  induction is with
  | nil => rfl
  | cons a r ih =>
    show a :: (ownOf N r).map (·.2) = a :: r
    rw [ih]
theorem bi_boot (b : Bi) : bootBuiltins (biN b) = some (biV b) := by cases b <;> decide +kernel
theorem cls_of (G : CtxE C xt Γ T X W') {c : Nat} (h : Γ.cls c = true) : ClOk X.K T c ∧ T.fn c = Γ.tb.cf.getD c [] := by
  unfold Gam.cls at h
  split at h
  · rename_i y e
    exact ⟨(G.cls c y e).1, (G.cls c y e).2.1⟩
  · cases h
theorem fld_of (G : CtxE C xt Γ T X W') {c f : Nat} {n : Str} (h : Γ.fld c f n = true) : ClOk X.K T c ∧ (T.fn c)[f]? = some n := by
  unfold Gam.fld at h
  obtain ⟨h1, h2⟩ := dec_and h
  obtain ⟨k, e⟩ := cls_of G h1
  exact ⟨k, by rw [e]; exact of_decide_eq_true h2⟩
theorem form_of {es : Es} {xs : List Expr} {pos : Pos} {env : Env} (h : mEs Γ es xs = true) (hl : xs.length < 10) : methodCallForm xs.length (backTo pos (starEach xs env)) (backToKw pos (keywordEach [] env)) = true := by
  have hs := mEs_star (pos := pos) (env := env) h
  unfold methodCallForm
  have ha : (backTo pos (starEach xs env)).all (!·.1) = true := by
    rw [List.all_eq_not_any_not]
    simpa using hs
  rw [ha]
  show (true && true && decide (xs.length + 0 < 30)) = true
  simp
  omega
theorem mEs_head {es : Es} {x : Expr} {xs : List Expr} (h : mEs Γ es (x :: xs) = true) : nst x = true ∧ ∀ (pos : Pos) (env : Env), (backTo pos (starEach xs env)).any (·.1) = false := by
  cases es with
  | nil => unfold mEs at h; cases h
  | cons e es =>
    unfold mEs at h
    exact ⟨(dec_and (dec_and h).1).1, fun pos env => mEs_star (dec_and h).2⟩
theorem boot_ty (t : Ty) : bootBuiltins (tyN t) = some (.type (tyS t)) := by cases t <;> decide +kernel
theorem nn_ty (t : Ty) : tyN t ≠ ("__name__" : Str) := by cases t <;> decide +kernel
theorem nd_ty (t : Ty) : (tyN t == ("__debug__" : Str)) = false := by cases t <;> decide +kernel
/-- a value's three roads -/
def Tri (X : Cx) (pe : Expr) (t : TE) : Prop := PE X pe t ∧ (nif pe = true → PT X pe (tTest t)) ∧ ∀ op vs pos, pe = .BoolOp op vs pos → PW X pe (tTest t)
theorem tri_of {pe : Expr} {t : TE} (h : PE X pe t) (hn : nt pe = true) : Tri X pe t := ⟨h, fun _ => pt_val h (nt_is hn), fun op vs pos e => by subst e; cases hn⟩
theorem Tri.imp {pe : Expr} {t t' : TE} (h : Tri X pe t) (i : ∀ σ H Q, t' σ H Q → t σ H Q) : Tri X pe t' :=
  ⟨h.1.imp i, fun z => (h.2.1 z).imp fun σ H Q q => i σ H _ q, fun op vs pos e => Cn.PW.imp (h.2.2 op vs pos e) fun σ H Q q => i σ H _ q⟩
end
set_option maxHeartbeats 8000000 in
mutual
theorem sE {C : Calls} {xt : Xt} : ∀ (e : E) {Γ : Gam} {T : Tx} {X : Cx} {W' : WX} (pe : Expr), CtxE C xt Γ T X W' → mE Γ e pe = true → Tri X pe (tE T xt W' fun ws m => evE C ws m e)
  | .var i, Γ, T, X, W', pe, G, h => by
    unfold mE at h
    split at h
    · obtain ⟨h, h3⟩ := dec_and h
      obtain ⟨h1, h2⟩ := dec_and h
      obtain ⟨d1, d2, _⟩ := okN_d h3
      exact tri_of ((pe_var (slot_of G (of_decide_eq_true h1)) (vis_of G h2) d1 d2).imp fun σ H Q q => tE_var q) rfl
    · cases h
  | .int i, Γ, T, X, W', pe, G, h => by
    unfold mE at h
    split at h
    · cases of_decide_eq_true h
      exact tri_of (pe_int.imp fun σ H Q q => tE_now (v := .int i) (w := .d (.int i)) q (fun _ _ => by simp only [evE]) fun _ _ => RD.int _) rfl
    · cases of_decide_eq_true h
      rename_i j _ _ _
      refine tri_of ((pe_un un_neg (pe_int (i := j))).imp fun σ H Q q => ?_) rfl
      exact ⟨j, rfl, tE_now (v := .int (-j)) (w := .d (.int (-j))) q (fun _ _ => by simp only [evE]) fun _ _ => RD.int _⟩
    · cases h
  | .str cs, Γ, T, X, W', pe, G, h => by
    unfold mE at h
    split at h
    · cases of_decide_eq_true h
      exact tri_of (pe_str.imp fun σ H Q q => tE_now (v := .str (strV cs)) (w := .d (.str cs)) q (fun _ _ => by simp only [evE]) fun _ _ => RD.str _) rfl
    · cases h
  | .bl b, Γ, T, X, W', pe, G, h => by
    unfold mE at h
    split at h
    · cases eq_of_beq h
      exact tri_of (pe_bl.imp fun σ H Q q => tE_now (v := .bl b) (w := .d (.bl b)) q (fun _ _ => by simp only [evE]) fun _ _ => RD.bl _) rfl
    · cases h
  | .non, Γ, T, X, W', pe, G, h => by
    unfold mE at h
    split at h
    · exact tri_of (pe_non.imp fun σ H Q q => tE_now (v := .non) (w := .d .non) q (fun _ _ => by simp only [evE]) fun _ _ => RD.non) rfl
    · cases h
  | .gi x i, Γ, T, X, W', pe, G, h => by
    unfold mE at h
    split at h
    · obtain ⟨h, h3⟩ := dec_and h
      obtain ⟨h1, h2⟩ := dec_and h
      obtain ⟨u, hu, ru⟩ := G.nums _ i (of_decide_eq_true h1)
      obtain ⟨d1, _, _⟩ := okN_d h3
      exact tri_of ((pe_glob (gl_of G h2) hu ru d1).imp fun σ H Q q => tE_now (v := .int i) (w := .d (.int i)) q (fun _ _ => by simp only [evE]) fun _ _ => RD.int _) rfl
    · cases h
  | .gt x t, Γ, T, X, W', pe, G, h => by
    unfold mE at h
    split at h
    · obtain ⟨h, h3⟩ := dec_and h
      obtain ⟨h1, h2⟩ := dec_and h
      obtain ⟨p, hp, hq⟩ := List.any_eq_true.mp h1
      obtain ⟨q1, q2⟩ := dec_and hq
      have e1 := eq_of_beq q1
      have e2 := same_eq _ _ q2
      obtain ⟨v, u, hu, ru, rk⟩ := G.tups p hp
      rw [e1] at hu
      rw [e2] at rk
      obtain ⟨d1, _, _⟩ := okN_d h3
      exact tri_of ((pe_glob (gl_of G h2) hu ru d1).imp fun σ H Q q => tE_now (v := v) (w := .kt t) q (fun _ _ => by simp only [evE]) fun _ _ => rk) rfl
    · cases h
  | .fz e, Γ, T, X, W', pe, G, h => by
    unfold mE at h
    refine (sE e pe G h).imp fun σ H Q q => ?_
    simp only [evE] at q
    exact tE_fz q
  | .bin o a b, Γ, T, X, W', pe, G, h => by
    unfold mE at h
    split at h
    · obtain ⟨h, h3⟩ := dec_and h
      obtain ⟨h1, h2⟩ := dec_and h
      cases of_decide_eq_true h1
      refine tri_of ?_ rfl
      have ho := op_bin (X := X) (xt := xt) G.hK o
      cases o <;> exact (pe_op ho (sE a _ G h2).1 (sE b _ G h3).1).imp fun σ H Q q => s_bin q
    · cases h
  | .mulM a b, Γ, T, X, W', pe, G, h => by
    unfold mE at h
    split at h
    · obtain ⟨h, h3⟩ := dec_and h
      obtain ⟨h1, h2⟩ := dec_and h
      cases of_decide_eq_true h1
      exact tri_of ((pe_op op_mulM (sE a _ G h2).1 (sE b _ G h3).1).imp fun σ H Q q => s_mulM q) rfl
    · cases h
  | .cmp o a b, Γ, T, X, W', pe, G, h => by
    unfold mE at h
    split at h
    · obtain ⟨h, h4⟩ := dec_and h
      obtain ⟨h, h3⟩ := dec_and h
      obtain ⟨h1, h2⟩ := dec_and h
      cases of_decide_eq_true h1
      have ho := op_cmp (X := X) (xt := xt) G.hK G.un o
      have hb := nset_bh h2 (coP o)
      exact ⟨(pe_cmpR ho (sE a _ G h3).1 (sE b _ G h4).1 hb).imp fun σ H Q q => s_cmp q, fun _ => (pt_cmpR ho (sE a _ G h3).1 (sE b _ G h4).1 hb).imp fun σ H Q q => s_cmp q, fun _ _ _ e => nomatch e⟩
    · cases h
  | .ch o p a b c, Γ, T, X, W', pe, G, h => by
    unfold mE at h
    split at h
    · obtain ⟨h, h6⟩ := dec_and h
      obtain ⟨h, h5⟩ := dec_and h
      obtain ⟨h, h4⟩ := dec_and h
      obtain ⟨h, h3⟩ := dec_and h
      obtain ⟨h1, h2⟩ := dec_and h
      cases of_decide_eq_true h1
      cases of_decide_eq_true h2
      have ho := op_cmp (X := X) (xt := xt) G.hK G.un o
      have hp := op_cmp (X := X) (xt := xt) G.hK G.un p
      exact ⟨(pe_chain ho hp (sE a _ G h4).1 (sE b _ G h5).1 (sE c _ G h6).1 (lastM h3)).imp fun σ H Q q => s_ch q, fun _ => (pt_chain ho hp (sE a _ G h4).1 (sE b _ G h5).1 (sE c _ G h6).1 (lastM h3)).imp fun σ H Q q => s_ch q, fun _ _ _ e => nomatch e⟩
    · cases h
  | .and2 a b, Γ, T, X, W', pe, G, h => by
    unfold mE at h
    split at h
    · obtain ⟨h, h4⟩ := dec_and h
      obtain ⟨h, h3⟩ := dec_and h
      obtain ⟨h1, h2⟩ := dec_and h
      have sa := sE a _ G h3
      have sb := sE b _ G h4
      have w := fun pos => Cn.PW.imp (pw_and (pos := pos) (sa.2.1 h1) (pw_and1 (sb.2.1 h2))) fun σ H Q (q : tTest (tE T xt W' fun ws m => evE C ws m (.and2 a b)) σ H Q) => w_and q
      exact ⟨(pe_and sa.1 (pe_one sb.1)).imp fun σ H Q q => s_and q, fun _ => (w _).pt, fun _ _ _ e => by cases e; exact w _⟩
    · obtain ⟨h, h3⟩ := dec_and h
      obtain ⟨h1, h2⟩ := dec_and h
      have sa := sE a _ G h2
      have sb := sE b _ G h3
      have w := Cn.PW.imp (pw_and (sa.2.1 h1) (sb.2.2 _ _ _ rfl)) fun σ H Q (q : tTest (tE T xt W' fun ws m => evE C ws m (.and2 a b)) σ H Q) => w_and q
      exact ⟨(pe_and sa.1 sb.1).imp fun σ H Q q => s_and q, fun _ => w.pt, fun _ _ _ e => by cases e; exact w⟩
    · cases h
  | .or2 a b, Γ, T, X, W', pe, G, h => by
    unfold mE at h
    split at h
    · obtain ⟨h, h4⟩ := dec_and h
      obtain ⟨h, h3⟩ := dec_and h
      obtain ⟨h1, h2⟩ := dec_and h
      have sa := sE a _ G h3
      have sb := sE b _ G h4
      have w := fun pos => Cn.PW.imp (pw_or (pos := pos) (sa.2.1 h1) (pw_or1 (sb.2.1 h2))) fun σ H Q (q : tTest (tE T xt W' fun ws m => evE C ws m (.or2 a b)) σ H Q) => w_or q
      exact ⟨(pe_or sa.1 (pe_one sb.1)).imp fun σ H Q q => s_or q, fun _ => (w _).pt, fun _ _ _ e => by cases e; exact w _⟩
    · obtain ⟨h, h3⟩ := dec_and h
      obtain ⟨h1, h2⟩ := dec_and h
      have sa := sE a _ G h2
      have sb := sE b _ G h3
      have w := Cn.PW.imp (pw_or (sa.2.1 h1) (sb.2.2 _ _ _ rfl)) fun σ H Q (q : tTest (tE T xt W' fun ws m => evE C ws m (.or2 a b)) σ H Q) => w_or q
      exact ⟨(pe_or sa.1 sb.1).imp fun σ H Q q => s_or q, fun _ => w.pt, fun _ _ _ e => by cases e; exact w⟩
    · cases h
  | .not a, Γ, T, X, W', pe, G, h => by
    unfold mE at h
    split at h
    · obtain ⟨h1, h2⟩ := dec_and h
      have sa := sE a _ G h2
      exact ⟨(pe_not sa.1).imp fun σ H Q q => s_not q, fun _ => (pt_not (sa.2.1 h1)).imp fun σ H Q q => w_not q, fun _ _ _ e => nomatch e⟩
    · cases h
  | .ife c a b, Γ, T, X, W', pe, G, h => by
    unfold mE at h
    split at h
    · obtain ⟨h, h4⟩ := dec_and h
      obtain ⟨h, h3⟩ := dec_and h
      obtain ⟨h1, h2⟩ := dec_and h
      exact ⟨(pe_ifExp ((sE c _ G h2).2.1 h1) (sE a _ G h3).1 (sE b _ G h4).1).imp fun σ H Q q => s_ife q, (fun z => Bool.noConfusion z), fun _ _ _ e => nomatch e⟩
    · cases h
  | .tup es, Γ, T, X, W', pe, G, h => by
    unfold mE at h
    split at h
    · exact tri_of ((pe_tup (sEs es _ G h)).imp fun σ H Q q => s_tup q) rfl
    · cases h
  | .lst es, Γ, T, X, W', pe, G, h => by
    unfold mE at h
    split at h
    · exact tri_of ((pe_lst (sEs es _ G h)).imp fun σ H Q q => s_lst q) rfl
    · cases h
  | .lstM es, Γ, T, X, W', pe, G, h => by
    unfold mE at h
    split at h
    · exact tri_of ((pe_lst (sEs es _ G h)).imp fun σ H Q q => s_lstM q) rfl
    · cases h
  | .ix a b, Γ, T, X, W', pe, G, h => by
    unfold mE at h
    split at h
    · obtain ⟨h, h3⟩ := dec_and h
      obtain ⟨h1, h2⟩ := dec_and h
      exact tri_of ((pe_ix (ix_R G.hK G.un) (sE a _ G h2).1 (sE b _ G h3).1 (nsl_ix h1)).imp fun σ H Q q => s_ix q) rfl
    · cases h
  | .sl a b c, Γ, T, X, W', pe, G, h => by
    unfold mE at h
    split at h
    · obtain ⟨h, h3⟩ := dec_and h
      obtain ⟨h1, h2⟩ := dec_and h
      refine tri_of ((pe_slice (sl_R (T := T) (xt := xt) G.hK) (sE a _ G h1).1 (po_some (sE b _ G h2).1) (po_some (sE c _ G h3).1)).imp fun σ H Q q => ?_) rfl
      simp only [evE] at q
      refine tE_bind (f := fun ws x m => (evE C ws m b).bind fun y m => (match y with | .d (.int i) => (evE C ws m c).bind fun z m => (match z with | .d (.int j) => slR m x (some i) (some j) | _ => .stuck) | _ => .stuck)) q fun F ρ m ws v w H1 R S hv A => ?_
      refine ⟨F, ρ, m, ws, R, S, A.bind.imp (fun F1 ρ1 H2 m1 u r1 l1 g1 k y hy => ?_) fun _ _ _ z => z⟩
      split at k
      · rename_i i
        refine ⟨i, RD.intV hy, F1, ρ1, m1, ws, r1, S.mono l1 g1, k.bind.imp (fun F2 ρ2 H3 m2 z r2 l2 g2 k3 y2 hy2 => ?_) fun _ _ _ z => z⟩
        split at k3
        · rename_i j
          exact ⟨j, RD.intV hy2, F2, ρ2, m2, w, r2, (hv.mono l1 g1).mono l2 g2, k3.imp (fun _ _ _ _ _ _ _ _ z => z) fun _ _ _ _ => trivial⟩
        · exact k3.elim
      · exact k.elim
    · cases h
  | .slF a b, Γ, T, X, W', pe, G, h => by
    unfold mE at h
    split at h
    · obtain ⟨h1, h2⟩ := dec_and h
      refine tri_of ((pe_slice (sl_R (T := T) (xt := xt) G.hK) (sE a _ G h1).1 (po_some (sE b _ G h2).1) po_none).imp fun σ H Q q => ?_) rfl
      simp only [evE] at q
      refine tE_bind (f := fun ws x m => (evE C ws m b).bind fun y m => (match y with | .d (.int i) => slR m x (some i) none | _ => .stuck)) q fun F ρ m ws v w H1 R S hv A => ?_
      refine ⟨F, ρ, m, ws, R, S, A.bind.imp (fun F1 ρ1 H2 m1 u r1 l1 g1 k y hy => ?_) fun _ _ _ z => z⟩
      split at k
      · rename_i i
        exact ⟨i, RD.intV hy, F1, ρ1, m1, w, r1, hv.mono l1 g1, k.imp (fun _ _ _ _ _ _ _ _ z => z) fun _ _ _ _ => trivial⟩
      · exact k.elim
    · cases h
  | .slT a c, Γ, T, X, W', pe, G, h => by
    unfold mE at h
    split at h
    · obtain ⟨h1, h2⟩ := dec_and h
      refine tri_of ((pe_slice (sl_R (T := T) (xt := xt) G.hK) (sE a _ G h1).1 po_none (po_some (sE c _ G h2).1)).imp fun σ H Q q => ?_) rfl
      simp only [evE] at q
      refine tE_bind (f := fun ws x m => (evE C ws m c).bind fun y m => (match y with | .d (.int i) => slR m x none (some i) | _ => .stuck)) q fun F ρ m ws v w H1 R S hv A => ?_
      refine ⟨F, ρ, m, ws, R, S, A.bind.imp (fun F1 ρ1 H2 m1 u r1 l1 g1 k y hy => ?_) fun _ _ _ z => z⟩
      split at k
      · rename_i i
        exact ⟨i, RD.intV hy, F1, ρ1, m1, w, r1, hv.mono l1 g1, k.imp (fun _ _ _ _ _ _ _ _ z => z) fun _ _ _ _ => trivial⟩
      · exact k.elim
    · cases h
  | .call f es, Γ, T, X, W', pe, G, h => by
    unfold mE at h
    split at h
    · obtain ⟨h, h4⟩ := dec_and h
      obtain ⟨h, h5⟩ := dec_and h
      obtain ⟨h, h3⟩ := dec_and h
      obtain ⟨h1, h2⟩ := dec_and h
      have mode : Γ.tb.md.getD f false = false → L2.Takes X W' := fun z => G.tk2 (by
        rw [z, Bool.or_false] at h5
        simpa using h5)
      obtain ⟨a, fd, ps, k, g1, g2, g3, g4, g5⟩ := G.cal f _ (of_decide_eq_true h1)
      obtain ⟨d1, _, _⟩ := okN_d h3
      have hs := mEs_star (pos := ⟨0, 0, 0, 0⟩) (env := X.env) h4
      refine tri_of ((pe_callS g5 g4 (gl_of G h2) g1 g2 g3 (fun σ => passM mode G.tkN σ) (sEs es _ G h4) d1 (star_cons ?_) ?_).imp fun σ H Q q => ?_) rfl
      · cases es with
        | nil => unfold mEs at h4; cases h4
        | cons e es => unfold mEs at h4; exact (dec_and (dec_and h4).1).1
      · cases es with
        | nil => unfold mEs at h4; cases h4
        | cons e es => unfold mEs at h4; exact mEs_star (dec_and h4).2
      · obtain ⟨F, ρ, m, ws, R, S, A⟩ := s_call q
        exact ⟨F, ρ, m, ws, R, S, A.imp (fun F1 ρ1 H1 m1 us r1 l1 g1 k vs hvs => ⟨T.side, k vs hvs⟩) fun _ _ _ z => z⟩
    · cases h
  | .b1 b a, Γ, T, X, W', pe, G, h => by
    unfold mE at h
    split at h
    · obtain ⟨h, h3⟩ := dec_and h
      obtain ⟨h1, h2⟩ := dec_and h
      obtain ⟨rfl, b2, b3, b4⟩ := bi_of G h1
      obtain ⟨d1, _, d3⟩ := okN_d b4
      have hc := call_b1 (T := T) (xt := xt) G.hK G.calm b
      have ha := pa_cons (sE a _ G h3).1 pa_nil (star_cons h2)
      refine tri_of ?_ rfl
      cases b <;> first
        | exact (pe_callB hc b2 b3 (bi_boot _) ha d3 d1 (star_cons h2) rfl).imp fun σ H Q q => s_b1 q
        | exact (pe_callTy hc b2 b3 (bi_boot _) ha d3 d1 (star_cons h2) rfl).imp fun σ H Q q => s_b1 q
    · cases h
  | .dm a b, Γ, T, X, W', pe, G, h => by
    unfold mE at h
    split at h
    · obtain ⟨h, h5⟩ := dec_and h
      obtain ⟨h, h4⟩ := dec_and h
      obtain ⟨h, h3⟩ := dec_and h
      obtain ⟨h1, h2⟩ := dec_and h
      obtain ⟨rfl, b2, b3, b4⟩ := bi_of G h1
      obtain ⟨d1, _, d3⟩ := okN_d b4
      have ha := pa_cons (sE a _ G h4).1 (pa_cons (sE b _ G h5).1 pa_nil (star_cons h3)) (star_cons h2)
      refine tri_of ((pe_callB (call_dm (T := T) (xt := xt)) b2 b3 (by decide +kernel) ha d3 d1 (star_cons h2) ?_).imp fun σ H Q q => s_dm q) rfl
      rw [star_cons h3]; rfl
    · cases h
  | .app a b, Γ, T, X, W', pe, G, h => by
    unfold mE at h
    split at h
    · obtain ⟨h, h6⟩ := dec_and h
      obtain ⟨h, h5⟩ := dec_and h
      obtain ⟨h, h4⟩ := dec_and h
      obtain ⟨h, h3⟩ := dec_and h
      obtain ⟨h1, h2⟩ := dec_and h
      cases of_decide_eq_true h1
      refine tri_of ((pe_bm PySem.F.plainAttrs_list PySem.F.slot_list_append PySem.F.type_list_append (mt_app (T := T) (xt := xt)) (sE a _ G h5).1 (pa_cons (sE b _ G h6).1 pa_nil (star_cons h4)) (nsup_at h2) ?_ h3 (star_cons h4) rfl).imp fun σ H Q q => s_app q) rfl
      rw [star_cons h4]; rfl
    · cases h
  | .ext a b, Γ, T, X, W', pe, G, h => by
    unfold mE at h
    split at h
    · obtain ⟨h, h6⟩ := dec_and h
      obtain ⟨h, h5⟩ := dec_and h
      obtain ⟨h, h4⟩ := dec_and h
      obtain ⟨h, h3⟩ := dec_and h
      obtain ⟨h1, h2⟩ := dec_and h
      cases of_decide_eq_true h1
      refine tri_of ((pe_bm PySem.F.plainAttrs_list PySem.F.slot_list_extend PySem.F.type_list_extend (mt_ext (T := T) (xt := xt)) (sE a _ G h5).1 (pa_cons (sE b _ G h6).1 pa_nil (star_cons h4)) (nsup_at h2) ?_ h3 (star_cons h4) rfl).imp fun σ H Q q => s_ext q) rfl
      rw [star_cons h4]; rfl
    · cases h
  | .pop a, Γ, T, X, W', pe, G, h => by
    unfold mE at h
    split at h
    · obtain ⟨h, h4⟩ := dec_and h
      obtain ⟨h, h3⟩ := dec_and h
      obtain ⟨h1, h2⟩ := dec_and h
      cases of_decide_eq_true h1
      exact tri_of ((pe_bm0 PySem.F.plainAttrs_list PySem.F.slot_list_pop PySem.F.type_list_pop (mt_popR (T := T) (xt := xt)) (sE a _ G h4).1 (nsup_at h2) h3).imp fun σ H Q q => s_pop q) rfl
    · cases h
  | .lc g it c el, Γ, T, X, W', pe, G, h => by
    unfold mE at h
    split at h
    · rename_i x tg i ifs scope p
      obtain ⟨h, h6⟩ := dec_and h
      obtain ⟨h, h5⟩ := dec_and h
      obtain ⟨h, h4⟩ := dec_and h
      obtain ⟨h, h3⟩ := dec_and h
      obtain ⟨h1, h2⟩ := dec_and h
      have hi := pi_seq (tg := tg) G.hK (sE it i G h2).1
      have ok : BlkOk X.N X.env.scope scope (ownOf Γ.N (tgs g)) := by
        rw [G.hN, G.sc]
        exact blkOk_by h3
      have he := fun (s : Shared) (H : Hp) (Ca : Addr) (cl : List (Str × Addr)) (fp : List Addr) => pe_s (T := T) fun sd => (sE el x ((G.blk s H scope Ca cl fp).wi sd) h5).1
      have hg : ∀ (s : Shared) (H : Hp) (Ca : Addr) (cl : List (Str × Addr)) (fp : List Addr), PG (X.blk s H scope (compEnvC scope cl Ca X.env) fp) tg (gTg X.K g) := fun s H Ca cl fp => mTg_of (G.blk s H scope Ca cl fp) h4
      split at h6
      · refine tri_of ((pe_lc G.calm (nd_of G) hi ok hg (fun s H Ca cl fp => pts_nil) he (nset_fold h1 _)).imp fun σ H Q q => ?_) rfl
        simp only [evE] at q
        rw [own_snd]
        have hc := isBT_eq h6
        subst hc
        exact s_lc (c := fun ws m => evE C ws m (.bl true)) G.hK takesB_yes (by simp only [evE]; exact q)
      · rename_i q'
        obtain ⟨k1, k2⟩ := dec_and h6
        have ht := fun (s : Shared) (H : Hp) (Ca : Addr) (cl : List (Str × Addr)) (fp : List Addr) => pts_one (pt_s (T := T) (xt := xt) (W' := WF) fun sd => (sE c q' ((G.blk s H scope Ca cl fp).wi sd) k2).2.1 k1)
        refine tri_of ((pe_lc G.calm (nd_of G) hi ok hg ht he (nset_fold h1 _)).imp fun σ H Q q => ?_) rfl
        simp only [evE] at q
        rw [own_snd]
        exact s_lc G.hK takesB_one q
      · cases h6
    · cases h
  | .ch3 o p q a b c d, Γ, T, X, W', pe, G, h => by unfold mE at h; cases h
  | .listM a, Γ, T, X, W', pe, G, h => by unfold mE at h; cases h
  | .get a k x, Γ, T, X, W', pe, G, h => by unfold mE at h; cases h
  | .gin x ps a, Γ, T, X, W', pe, G, h => by
    unfold mE at h
    split at h
    · obtain ⟨h, h4⟩ := dec_and h
      obtain ⟨h, h3⟩ := dec_and h
      obtain ⟨h1, h2⟩ := dec_and h
      obtain ⟨ad, g1, g2⟩ := G.dics _ _ (of_decide_eq_true h1)
      obtain ⟨d1, _, _⟩ := okN_d h3
      have ho := op_gin (T := T) (xt := xt) g2
      have hg := fun pos => pe_glob (X := X) (pos := pos) (v := .ref ad) (gl_of G h2) g1 rfl d1
      exact ⟨(pe_cmpR ho (sE a _ G h4).1 (hg _) rfl).imp fun σ H Q q => s_gin q, fun _ => (pt_cmpR ho (sE a _ G h4).1 (hg _) rfl).imp fun σ H Q q => s_gin q, fun _ _ _ e => nomatch e⟩
    · cases h
  | .gget x ps a, Γ, T, X, W', pe, G, h => by
    unfold mE at h
    split at h
    · obtain ⟨h, h5⟩ := dec_and h
      obtain ⟨h, h4⟩ := dec_and h
      obtain ⟨h, h3⟩ := dec_and h
      obtain ⟨h1, h2⟩ := dec_and h
      obtain ⟨ad, g1, g2⟩ := G.dics _ _ (of_decide_eq_true h1)
      obtain ⟨d1, _, _⟩ := okN_d h3
      exact tri_of ((pe_ix (ix_gget (T := T) (xt := xt) g2) (pe_glob (v := .ref ad) (gl_of G h2) g1 rfl d1) (sE a _ G h5).1 (nsl_ix h4)).imp fun σ H Q q => s_gget q) rfl
    · cases h
  | .lcx g it c el, Γ, T, X, W', pe, G, h => by unfold mE at h; cases h
  | .dicM t, Γ, T, X, W', pe, G, h => by
    unfold mE at h
    split at h
    · cases t with
      | true => exact tri_of (pe_dnewT.imp fun σ H Q q => s_dicT q) rfl
      | false => exact tri_of (pe_dnewK.imp fun σ H Q q => s_dicK q) rfl
    · cases h
  | .lstU es, Γ, T, X, W', pe, G, h => by
    unfold mE at h
    split at h
    · exact tri_of ((pe_lst (sEs es _ G h)).imp fun σ H Q q => s_lstU q) rfl
    · cases h
  | .at c f a, Γ, T, X, W', pe, G, h => by
    unfold mE at h
    split at h
    · obtain ⟨h, h3⟩ := dec_and h
      obtain ⟨h1, h2⟩ := dec_and h
      obtain ⟨kc, hf⟩ := fld_of G h1
      exact tri_of ((pe_fld (sE a _ G h3).1 (nsup_at h2)).imp fun σ H Q q => s_at kc hf q) rfl
    · cases h
  | .meth c f o es, Γ, T, X, W', pe, G, h => by
    unfold mE at h
    split at h
    · rename_i x n ap xs cp
      obtain ⟨h, h6⟩ := dec_and h
      obtain ⟨h, h5⟩ := dec_and h
      obtain ⟨h, h4⟩ := dec_and h
      obtain ⟨h, h3⟩ := dec_and h
      obtain ⟨h1, h2⟩ := dec_and h
      unfold Gam.mth at h1
      obtain ⟨h1, m4⟩ := dec_and h1
      obtain ⟨h1, m3⟩ := dec_and h1
      obtain ⟨m1, m2⟩ := dec_and h1
      obtain ⟨kc, efn⟩ := cls_of G m1
      obtain ⟨ad, fd, ps, k, g1, g2, g3, g4⟩ := G.met f c n (of_decide_eq_true m2)
      have hn : n ∉ T.fn c := by rw [efn]; simpa using m3
      have mode : Γ.tb.md.getD f false = false → L2.Takes X W' := fun z => G.tk2 (by
        rw [z, Bool.or_false] at m4
        simpa using m4)
      have room : Room k X.A := g3.mono (Nat.le_succ k)
      have ev := meth_eval (env := X.env) (es := xs) (nm := n) (nsup_at h2) h3 (form_of h6 (of_decide_eq_true h4))
      have so := (sE o _ G h5).1
      cases xs with
      | nil =>
        refine tri_of ((pe_metS0 so kc.cls g1 g4 room g2 (fun σ => passM mode G.tkN σ) ev).imp fun σ H Q q => ?_) rfl
        cases es with
        | nil =>
          obtain ⟨F, ρ, m, ws, R, S, A⟩ := s_meth hn q
          refine ⟨F, ρ, m, ws, R, S, A.imp (fun F1 ρ1 H1 m1 us r1 l1 g1 kk v hv => ?_) fun _ _ _ z => z⟩
          obtain ⟨b, dx, fs, e1, e2, e3, e4⟩ := kk v hv
          exact ⟨b, dx, fs, e1, e2, e3, a_nil e4⟩
        | cons _ _ => unfold mEs at h6; cases h6
      | cons y ys =>
        obtain ⟨n1, n2⟩ := mEs_head h6
        exact tri_of ((pe_metS so kc.cls g1 g4 room g2 (fun σ => passM mode G.tkN σ) (sEs es _ G h6) (star_cons n1) (n2 _ _) ev).imp fun σ H Q q => s_meth hn q) rfl
    · cases h
  | .new c f es, Γ, T, X, W', pe, G, h => by
    unfold mE at h
    split at h
    · rename_i y yp xs cp
      obtain ⟨h, h2⟩ := dec_and h
      unfold Gam.mkr at h
      obtain ⟨h, m5⟩ := dec_and h
      obtain ⟨h, m4⟩ := dec_and h
      obtain ⟨h, m3⟩ := dec_and h
      obtain ⟨m1, m2⟩ := dec_and h
      obtain ⟨kc, efn, gm, mk, kp⟩ := G.cls c y (of_decide_eq_true m1)
      obtain ⟨ad, fd, ps, k, g1, g2, g3, g4⟩ := G.met f c _ (of_decide_eq_true m2)
      have mode : Γ.tb.md.getD f false = false → L2.Takes X W' := fun z => G.tk2 (by
        rw [z, Bool.or_false] at m3
        simpa using m3)
      obtain ⟨d1, _, _⟩ := okN_d m5
      have M : Mk X.K (T.cad c) ad := ⟨mk, g1.at_, g1.fn, kp⟩
      cases xs with
      | nil =>
        refine tri_of ((pe_makS0 M g4 g3 (gl_of G m4) gm g2 (fun σ => passM mode G.tkN σ) d1).imp fun σ H Q q => ?_) rfl
        cases es with
        | nil => exact a_nil (C := C) (s_new q)
        | cons _ _ => unfold mEs at h2; cases h2
      | cons z zs =>
        obtain ⟨n1, n2⟩ := mEs_head h2
        exact tri_of ((pe_makS M g4 g3 (gl_of G m4) gm g2 (fun σ => passM mode G.tkN σ) (sEs es _ G h2) d1 (star_cons n1) (n2 _ _)).imp fun σ H Q q => s_new q) rfl
    · cases h
  | .isi t a, Γ, T, X, W', pe, G, h => by
    unfold mE at h
    split at h
    · obtain ⟨h, h4⟩ := dec_and h
      obtain ⟨h, h3⟩ := dec_and h
      obtain ⟨h1, h2⟩ := dec_and h
      obtain ⟨rfl, b2, b3, b4⟩ := bi_of G h1
      obtain ⟨rfl, c2, c3, c4⟩ := bi_of G h2
      obtain ⟨d1, _, d3⟩ := okN_d b4
      have ty : ∀ pos, PE X (.Name (tyN t) pos) (tC (.ty (tyS t))) := fun pos => pe_bltn c2 c3 (boot_ty t) rfl (nn_ty t) (nd_ty t)
      exact tri_of ((pe_callB (call_isiR (T := T) (xt := xt) t) b2 b3 (by decide +kernel) (pa_cons (sE a _ G h4).1 (pa_cons (ty _) pa_nil rfl) (star_cons h3)) d3 d1 (star_cons h3) rfl).imp fun σ H Q q => s_isi q) rfl
    · cases h
  | .rngL a b, Γ, T, X, W', pe, G, h => by
    unfold mE at h
    split at h
    · obtain ⟨h, h6⟩ := dec_and h
      obtain ⟨h, h5⟩ := dec_and h
      obtain ⟨h, h4⟩ := dec_and h
      obtain ⟨h, h3⟩ := dec_and h
      obtain ⟨h1, h2⟩ := dec_and h
      obtain ⟨rfl, b2, b3, b4⟩ := bi_of G h1
      obtain ⟨rfl, c2, c3, c4⟩ := bi_of G h2
      exact tri_of ((pe_listRg G.calm b2 b3 (prg_2 (X := X) c2 c3 (sE a _ G h5).1 (sE b _ G h6).1 (star_cons h3) (star_cons h4) (by rw [star_cons h4]; rfl)) rfl).imp fun σ H Q q => s_rngL q) rfl
    · cases h
  | .list a, Γ, T, X, W', pe, G, h => by
    unfold mE at h
    split at h
    · obtain ⟨h, h3⟩ := dec_and h
      obtain ⟨h1, h2⟩ := dec_and h
      obtain ⟨rfl, b2, b3, b4⟩ := bi_of G h1
      obtain ⟨d1, _, d3⟩ := okN_d b4
      exact tri_of ((pe_callTy (call_lst (T := T) (xt := xt)) b2 b3 (by decide +kernel) (pa_cons (sE a _ G h3).1 pa_nil (star_cons h2)) d3 d1 (star_cons h2) rfl).imp fun σ H Q q => s_list q) rfl
    · cases h
  | .dict t a, Γ, T, X, W', pe, G, h => by
    unfold mE at h
    split at h
    · obtain ⟨h, h3⟩ := dec_and h
      obtain ⟨h, h2⟩ := dec_and h
      obtain ⟨h0, h1⟩ := dec_and h
      cases t with
      | true => cases h0
      | false =>
        obtain ⟨rfl, b2, b3, b4⟩ := bi_of G h1
        obtain ⟨d1, _, d3⟩ := okN_d b4
        exact tri_of ((pe_callTy (call_dct (T := T) (xt := xt) G.calm) b2 b3 (by decide +kernel) (pa_cons (sE a _ G h3).1 pa_nil (star_cons h2)) d3 d1 (star_cons h2) rfl).imp fun σ H Q q => s_dict q) rfl
    · cases h
  | .gs x cs, Γ, T, X, W', pe, G, h => by
    unfold mE at h
    split at h
    · obtain ⟨h, h3⟩ := dec_and h
      obtain ⟨h1, h2⟩ := dec_and h
      obtain ⟨u, hu, ru⟩ := G.txts _ cs (of_decide_eq_true h1)
      obtain ⟨d1, _, _⟩ := okN_d h3
      exact tri_of ((pe_glob (gl_of G h2) hu ru d1).imp fun σ H Q q => tE_now (v := .str (strV cs)) (w := .d (.str cs)) q (fun _ _ => by simp only [evE]) fun _ _ => RD.str _) rfl
    · cases h
  | .ginS x ps a, Γ, T, X, W', pe, G, h => by
    unfold mE at h
    split at h
    · obtain ⟨h, h4⟩ := dec_and h
      obtain ⟨h, h3⟩ := dec_and h
      obtain ⟨h1, h2⟩ := dec_and h
      obtain ⟨ad, es, n, g1, g2, g3⟩ := G.dicS _ _ (of_decide_eq_true h1)
      obtain ⟨d1, _, _⟩ := okN_d h3
      have ho := op_ginS (T := T) (xt := xt) g2 g3
      have hg := fun pos => pe_glob (X := X) (pos := pos) (v := .ref ad) (gl_of G h2) g1 rfl d1
      exact ⟨(pe_cmpR ho (sE a _ G h4).1 (hg _) rfl).imp fun σ H Q q => s_ginS q, fun _ => (pt_cmpR ho (sE a _ G h4).1 (hg _) rfl).imp fun σ H Q q => s_ginS q, fun _ _ _ e => nomatch e⟩
    · cases h
  | .ggetS x ps a, Γ, T, X, W', pe, G, h => by
    unfold mE at h
    split at h
    · obtain ⟨h, h5⟩ := dec_and h
      obtain ⟨h, h4⟩ := dec_and h
      obtain ⟨h, h3⟩ := dec_and h
      obtain ⟨h1, h2⟩ := dec_and h
      obtain ⟨ad, es, n, g1, g2, g3⟩ := G.dicS _ _ (of_decide_eq_true h1)
      obtain ⟨d1, _, _⟩ := okN_d h3
      exact tri_of ((pe_ix (ix_ggetS (T := T) (xt := xt) g2 g3) (pe_glob (v := .ref ad) (gl_of G h2) g1 rfl d1) (sE a _ G h5).1 (nsl_ix h4)).imp fun σ H Q q => s_ggetS q) rfl
    · cases h
  | .cv i es, Γ, T, X, W', pe, G, h => by unfold mE at h; cases h
  | .lam l is, Γ, T, X, W', pe, G, h => by unfold mE at h; cases h
theorem sEs {C : Calls} {xt : Xt} : ∀ (es : Es) {Γ : Gam} {T : Tx} {X : Cx} {W' : WX} (xs : List Expr), CtxE C xt Γ T X W' → mEs Γ es xs = true → PA X xs (tA T xt W' fun ws m => evEs C ws m es)
  | .nil, Γ, T, X, W', xs, G, h => by
    unfold mEs at h
    cases xs with
    | nil => exact pa_nil.imp fun σ H Q q => a_nil q
    | cons _ _ => cases h
  | .cons e es, Γ, T, X, W', xs, G, h => by
    unfold mEs at h
    cases xs with
    | nil => cases h
    | cons x r =>
      obtain ⟨h, h3⟩ := dec_and h
      obtain ⟨h1, h2⟩ := dec_and h
      exact (pa_cons (sE e x G h2).1 (sEs es r G h3) (star_cons h1)).imp fun σ H Q q => a_cons q
end
end Cn

/-! # the text against the language: statements, defs -/
namespace Cn
open PySem PySem.Spec PyProof.Rows L2
def nc : Expr → Bool
  | .ListComp _ _ _ _ => false
  | .SetComp _ _ _ _ => false
  | .DictComp _ _ _ _ _ => false
  | _ => true
def ntup : Expr → Bool
  | .Tuple _ _ _ => false
  | .List _ _ => false
  | _ => true
/-- the fields that a handler hands back -/
def mXf (nm : Str) : List Str → List Expr → Bool
  | [], es => es.isEmpty
  | f :: r, es => (match es with
    | .Attribute (.Name y _) g _ :: s => decide (y = nm) && decide (g = f) && mXf nm r s
    | _ => false)
def mIt (Γ : Gam) : It → Expr → Bool
  | .seq e => fun pe => nset pe && mE Γ e pe
  | .rng a b => fun pe => match pe with | .Call (.Name y _) [x, z] [] _ => Γ.bi y "range" && nst x && nst z && mE Γ a x && mE Γ b z | _ => false
  | _ => fun _ => false
def Gam.inT (Γ : Gam) : Gam := { Γ with t := false }
def Gam.inN (Γ : Gam) : Gam := { Γ with t := false, n := true }
def isFz : S → Bool
  | .fzs _ => true
  | _ => false
def Es.len : Es → Nat
  | .nil => 0
  | .cons _ es => es.len + 1
mutual
def mS (Γ : Gam) : S → Stmt → Bool
  | .asg i e => fun st => match st with | .Assign [.Name y _] x _ => decide (Γ.N[i]? = some y) && Γ.tgt y && nc x && mE Γ e x | _ => false
  | .asgT is e => fun st => match st with | .Assign [.Tuple es _ _] x _ => mNames Γ is es && nc x && ntup x && mE Γ e x | _ => false
  | .ex e => fun st => match st with | .Expr x _ => nc x && mE Γ e x | _ => false
  | .ret e => fun st => match st with | .Return (some x) _ => mE Γ e x | _ => false
  | .if_ c a b => fun st => match st with | .If x xs ys _ => nif x && mE Γ c x && mSs Γ a xs && mSs Γ b ys | _ => false
  | .wh c b => fun st => match st with | .While x xs [] _ => nif x && mE Γ c x && mSs Γ b xs | _ => false
  | .for_ g it b => fun st => match st with | .For tg x xs [] _ => mTg Γ g tg && nset x && mIt Γ it x && mSs Γ b xs | _ => false
  | .rais c _ es => fun st => match st with
    | .Raise (some (.Call (.Name y _) (x :: xs) [] _)) none _ => decide (Γ.tb.xn[c]? = some y) && Γ.gl y && okN y && decide (es.len = (Γ.tb.xf.getD c []).length) && mEs Γ es (x :: xs)
    | .Raise (some (.Call (.Name y _) [] [] _)) none _ => decide (Γ.tb.xn[c]? = some y) && Γ.gl y && okN y && decide ((Γ.tb.xf.getD c []).length = 0) && decide (es.len = 0)
    | _ => false
  | .tryF b c i fs => fun st => match st with
    | .Try body [.ExceptHandler (some (.Name y _)) (some nm) [.Return (some (.List es _)) _] _] [] [] _ =>
        decide (Γ.tb.xn[c]? = some y) && Γ.gl y && okN y && okN nm && decide (Γ.N[i]? = some nm) && decide (Γ.sc.names.lookup nm = some .local) && decide (fs = List.range (Γ.tb.xf.getD c []).length) && mXf nm (Γ.tb.xf.getD c []) es && mSs Γ.inT b body
    | _ => false
  | .tryR b cs x _ k => fun st => match st with
    | .Try body [.ExceptHandler (some (.Name y _)) none [.Raise (some (.Call (.Name z _) [.Name v _] [] _)) (some (.Constant .none _ _)) _] _] [] [] _ =>
        (match cs with
          | [c] => decide (Γ.tb.xn[c]? = some y) && Γ.gl y && okN y && decide (Γ.tb.xn[x]? = some z) && Γ.gl z && okN z && decide ((Γ.tb.xf.getD x []).length = 1) && decide (Γ.tb.nums.lookup v = some k) && Γ.gl v && okN v && Γ.t && !Γ.n && mSs Γ.inN b body
          | _ => false)
    | _ => false
  | .seta c f o e => fun st => match st with | .Assign [.Attribute x n _] v _ => Γ.fld c f n && nc v && mE Γ o x && mE Γ e v | _ => false
  | .auga c f b o e => fun st => match st with | .AugAssign (.Attribute x n _) op v _ => Γ.fld c f n && decide (op = boP b) && (decide (b = .add) || decide (b = .sub)) && mE Γ o x && mE Γ e v | _ => false
  | .setx o k e => fun st => match st with | .Assign [.Subscript x y _] v _ => nc v && mE Γ o x && mE Γ k y && mE Γ e v | _ => false
  | .tryN b c i => fun st => match st with
    | .Try body [.ExceptHandler (some (.Name y _)) none [.Assign [.Name z _] (.Constant .none _ _) _] _] [] [] _ =>
        decide (Γ.tb.xn[c]? = some y) && Γ.gl y && okN y && decide (Γ.N[i]? = some z) && decide (Γ.sc.names.lookup z = some .local) && mSs Γ.inT b body
    | _ => false
  | _ => fun _ => false
def mSs (Γ : Gam) : Ss → List Stmt → Bool
  | .nil => fun xs => xs.isEmpty
  | .cons s r => fun xs => if isFz s then mSs Γ r xs else (match xs with | x :: t => mS Γ s x && mSs Γ r t | _ => false)
end
theorem isFz_eq {s : S} (h : isFz s = true) : ∃ i, s = .fzs i := by
  unfold isFz at h
  split at h
  · exact ⟨_, rfl⟩
  · cases h
/-- what __init__ of such an exception leaves -/
def spX (C : Addr) (fns : List Str) : Sp := fun vs H Q _ => ∃ (a : Addr) (ys : List V), vs = .ref a :: ys ∧ ys.length = fns.length ∧ H a = some (exo a C none) ∧
  ∀ d, H d = none → d ≠ a → Q .non (upd (upd H d (exd d (fns.zip ys).reverse)) a (exo a C (some d)))
structure XcOk (xt : Xt) (Γ : Gam) (X : Cx) (c : Nat) (y : Str) : Prop where
  lt : c < xt.num
  gC : X.mg y = some (.ref (xt.xad c))
  ox : OexC X.K (xt.xad c)
  xf : XfC X.K (xt.xad c)
  nd : (xt.xfn c).Nodup
  no : ∀ f ∈ xt.xfn c, PySem.W.findIn X.K (.ref (xt.xad c)) f = some none
  fn : xt.xfn c = Γ.tb.xf.getD c []
  short : (xt.xfn c).length ≤ 10
  mkr : ∃ fI fd ps k, PySem.W.findIn X.K (.ref (xt.xad c)) "__init__" = some (some (.ref fI)) ∧ PySem.W.typeIn X.K (.ref fI) = some (.type "function") ∧ Binds X.K fd ps [] ∧ Room (k + 1) X.A ∧
    ((xt.xfn c ≠ [] ∧ FnOk X.prog X.w X.K X.mg X.base (L2.CX X.prog X.w) k fI fd ps (spX (xt.xad c) (xt.xfn c)) ∧ L2H.FnH X.prog X.w X.K X.mg X.base (L2.CX X.prog X.w) k fI fd ps (spX (xt.xad c) (xt.xfn c))) ∨
      (xt.xfn c = [] ∧ FnOk X.prog X.w X.K X.mg X.base (L2.CX X.prog X.w) k fI fd ps (spB (xt.xad c))))
structure CtxS (C : Calls) (xt : Xt) (Γ : Gam) (T : Tx) (X : Cx) (W' : WX) : Prop where
  e : CtxE C xt Γ T X W'
  po : PassesOwn (model X.prog X.w) X.A X.env X.xe
  stk : X.stack = X.env :: X.outer
  frm : X.env.frame = some X.env.locals
  pa : Γ.t = true → ∀ hd : Option Value, PassesOwnAt (model X.prog X.w) (X.A.mark hd) X.A X.env X.xe
  xc : ∀ c y, Γ.tb.xn[c]? = some y → XcOk xt Γ X c y
  xe : ∀ c c', c < xt.num → c' < xt.num → PySem.W.exmOne X.K (.ref (xt.xad c)) (.ref (xt.xad c')) = some (decide (c = c'))
section
variable {C : Calls} {xt : Xt} {Γ : Gam} {T : Tx} {X : Cx} {W' : WX}
theorem CtxS.tr (G : CtxS C xt Γ T X W') {W2 : WX} {pn : List (Addr × Obj)} {xe : Value → Shared → Prop} (tkN : L2N.Takes (X.tr pn xe) W2) (tk2 : Γ.n = false → L2.Takes (X.tr pn xe) W2) (po : PassesOwn (model X.prog X.w) X.A X.env xe) : CtxS C xt Γ.inT T (X.tr pn xe) W2 :=
  ⟨⟨G.e.hK, G.e.hN, G.e.nd, G.e.sc, G.e.calm, G.e.un, G.e.fa, tkN, tk2, G.e.nums, G.e.tups, G.e.free, G.e.dics, G.e.txts, G.e.dicS, G.e.cls, G.e.met, G.e.cal⟩, po, G.stk, G.frm, (fun h => Bool.noConfusion h), fun c y h => ⟨(G.xc c y h).lt, (G.xc c y h).gC, (G.xc c y h).ox, (G.xc c y h).xf, (G.xc c y h).nd, (G.xc c y h).no, (G.xc c y h).fn, (G.xc c y h).short, (G.xc c y h).mkr⟩, G.xe⟩
theorem CtxS.trN (G : CtxS C xt Γ T X W') {W2 : WX} {pn : List (Addr × Obj)} {xe : Value → Shared → Prop} (tkN : L2N.Takes (X.tr pn xe) W2) (po : PassesOwn (model X.prog X.w) X.A X.env xe) : CtxS C xt Γ.inN T (X.tr pn xe) W2 :=
  ⟨⟨G.e.hK, G.e.hN, G.e.nd, G.e.sc, G.e.calm, G.e.un, G.e.fa, tkN, (fun h => Bool.noConfusion h), G.e.nums, G.e.tups, G.e.free, G.e.dics, G.e.txts, G.e.dicS, G.e.cls, G.e.met, G.e.cal⟩, po, G.stk, G.frm, (fun h => Bool.noConfusion h), fun c y h => ⟨(G.xc c y h).lt, (G.xc c y h).gC, (G.xc c y h).ox, (G.xc c y h).xf, (G.xc c y h).nd, (G.xc c y h).no, (G.xc c y h).fn, (G.xc c y h).short, (G.xc c y h).mkr⟩, G.xe⟩
theorem nc_sw {e : Expr} {t : Option Expr} {l : Nat} {env : Env} (h : nc e = true) : swapsWith e t l env = pure false := by
  cases e <;> first | rfl | cases h
theorem nt_st {e : Expr} {es : List Expr} {k : Nat} {p : Pos} {env : Env} (h : ntup e = true) : swappedStores [.Tuple es k p] e env = pure none := by
  cases e <;> first | rfl | cases h
/-! ### raise -/
theorem zip_lookup {fns : List Str} {ys : List V} {i : Nat} {n : Str} {y : V} (hl : fns.length = ys.length) (nd : fns.Nodup) (h1 : fns[i]? = some n) (h2 : ys[i]? = some y) : ((fns.zip ys).reverse).lookup n = some y := by
  have hm : (n, y) ∈ (fns.zip ys).reverse := by
    rw [List.mem_reverse]
    exact List.mem_of_getElem? (by rw [List.getElem?_zip_eq_some]; exact ⟨h1, h2⟩ : (fns.zip ys)[i]? = some (n, y))
  have nd2 : ((fns.zip ys).reverse.map (·.1)).Nodup := by
    rw [List.map_reverse, List.map_fst_zip (by omega)]
    exact (List.reverse_perm fns).nodup_iff.mpr nd
  generalize (fns.zip ys).reverse = l at hm nd2
  induction l with
  | nil => cases hm
  | cons p r ih =>
    obtain ⟨a, b⟩ := p
    have nd3 := List.nodup_cons.mp (show (a :: r.map (·.1)).Nodup from nd2)
    rcases List.mem_cons.mp hm with e | hm
    · cases e; simp [List.lookup]
    · have hne : n ≠ a := fun e => nd3.1 (by rw [← e]; exact List.mem_map_of_mem (f := (·.1)) hm)
      have : (n == a) = false := by simpa using hne
      simp only [List.lookup, this]
      exact ih hm nd3.2
theorem evEs_len : ∀ {es : Es} {ws : Sl} {m : Mu} {us : List W} {m' : Mu}, evEs C ws m es = .ok us m' → us.length = es.len
  | .nil, ws, m, us, m', h => by simp only [evEs] at h; cases h; rfl
  | .cons e es, ws, m, us, m', h => by
    simp only [evEs] at h
    cases e1 : evE C ws m e with
    | ok w m1 =>
      rw [e1] at h
      cases e2 : evEs C ws m1 es with
      | ok vs m2 =>
        simp only [Res.bind, e2] at h
        cases h
        show vs.length + 1 = es.len + 1
        rw [evEs_len e2]
      | exc x m2 => simp only [Res.bind, e2] at h; cases h
      | stuck => simp only [Res.bind, e2] at h; cases h
    | exc x m1 => rw [e1] at h; cases h
    | stuck => rw [e1] at h; cases h
theorem intF_at {F : Hp} {ρ : Ro} : ∀ {ws : List W} {vs : List V} {is : List Int}, RWs T F ρ vs ws → intF ws = some is → vs = is.map V.int
  | [], _, _, .nil, e => by cases e; rfl
  | .d (.int i) :: r, _, _, .cons h t, e => by
    unfold intF at e
    split at e
    · rename_i is' q
      cases e
      cases h
      rw [intF_at t q]; rfl
    · cases e
  | .d (.non) :: r, _, _, .cons h t, e => by cases e
  | .d (.bl _) :: r, _, _, .cons h t, e => by cases e
  | .d (.str _) :: r, _, _, .cons h t, e => by cases e
  | .d (.tup _) :: r, _, _, .cons h t, e => by cases e
  | .d (.lst _) :: r, _, _, .cons h t, e => by cases e
  | .d (.ins _ _) :: r, _, _, .cons h t, e => by cases e
  | .d (.dK _ _) :: r, _, _, .cons h t, e => by cases e
  | .d (.dT _ _) :: r, _, _, .cons h t, e => by cases e
  | .h _ :: r, _, _, .cons h t, e => by cases e
  | .hi _ _ :: r, _, _, .cons h t, e => by cases e
  | .kt _ :: r, _, _, .cons h t, e => by cases e
  | .clo _ _ :: r, _, _, .cons h t, e => by cases e
theorem intF_len : ∀ {ws : List W} {is : List Int}, intF ws = some is → is.length = ws.length
  | [], _, e => by cases e; rfl
  | .d (.int i) :: r, is, e => by
    unfold intF at e
    cases q : intF r with
    | none => rw [q] at e; cases e
    | some t =>
      rw [q] at e
      cases e
      simp [intF_len q]
  | .d (.non) :: r, _, e => by cases e
  | .d (.bl _) :: r, _, e => by cases e
  | .d (.str _) :: r, _, e => by cases e
  | .d (.tup _) :: r, _, e => by cases e
  | .d (.lst _) :: r, _, e => by cases e
  | .d (.ins _ _) :: r, _, e => by cases e
  | .d (.dK _ _) :: r, _, e => by cases e
  | .d (.dT _ _) :: r, _, e => by cases e
  | .h _ :: r, _, e => by cases e
  | .hi _ _ :: r, _, e => by cases e
  | .kt _ :: r, _, e => by cases e
  | .clo _ _ :: r, _, e => by cases e
theorem q_rais {c f : Nat} {es : Es} {D : Ends} {σ : L2.St} {H : Hp} (hlt : c < xt.num) (hnd : (xt.xfn c).Nodup) (hsh : (xt.xfn c).length ≤ 10) (hlen : es.len = (xt.xfn c).length) (h : tS T xt W' (fun ws m => evS C ws m (.rais c f es)) D σ H) :
    tMkO (xt.xad c) (spX (xt.xad c) (xt.xfn c)) [] (tA T xt W' fun ws m => evEs C ws m es) σ H (fun cls d H' => W' cls d σ H') := by
  obtain ⟨F, ρ, m, ws, R, S, A⟩ := h
  simp only [evS] at A
  have A1 := A.toS S
  have hus : ∀ us m', evEs C ws m es = .ok us m' → us.length = (xt.xfn c).length := fun us m' e => (evEs_len e).trans hlen
  refine ⟨F, ρ, m, ws, R, S, ?_⟩
  show After T xt F ρ (evEs C ws m es) _ _
  have hus' := hus
  generalize evEs C ws m es = q at A1 hus'
  cases q with
  | exc x m1 => exact A1
  | stuck => exact A1.elim
  | ok us m1 =>
    intro F1 ρ1 H1 R1 l1 g1 vs hvs
    have k : AfterS T xt W' D F1 ρ1 σ (match intF us with | some is => SR.exc ⟨c, is⟩ ws m1 | none => .stuck) := A1 F1 ρ1 H1 R1 l1 g1
    split at k
    · rename_i is e
      have ev := intF_at hvs e
      subst ev
      have hl : is.length = (xt.xfn c).length := (intF_len e).trans (hus' us m1 rfl)
      refine ⟨by simp; omega, fun a ha => ?_⟩
      rw [List.append_nil]
      refine ⟨a, is.map V.int, rfl, by simpa using hl, upd_same, fun d hd hda => ⟨rfl, d, ((xt.xfn c).zip (is.map V.int)).reverse, upd_same, ?_, ?_, ?_⟩⟩
      · rw [upd_ne hda, upd_same]
      · rw [upd_ne hda] at hd; exact hd
      · have hd' : H1 d = none := by rw [upd_ne hda] at hd; exact hd
        have e2 : upd (del (upd (upd (upd H1 a (exo a (xt.xad c) none)) d (exd d ((xt.xfn c).zip (is.map V.int)).reverse)) a (exo a (xt.xad c) (some d))) a) d (.xd ((xt.xfn c).zip (is.map V.int)).reverse) = upd H1 d (.xd ((xt.xfn c).zip (is.map V.int)).reverse) := by
          funext b
          by_cases h1 : b = d
          · subst h1; rw [upd_same, upd_same]
          · rw [upd_ne h1, upd_ne h1]
            by_cases h2 : b = a
            · subst h2; rw [del_same, ha]
            · rw [del_ne h2, upd_ne h2, upd_ne h1, upd_ne h2]
        rw [e2]
        refine k _ ρ1 _ σ _ _ (R1.grow hd') (Le.new (R1.sub.none hd')) .rfl' ((S.mono l1 g1).mono (Le.new (R1.sub.none hd')) .rfl') ⟨rfl, hlt, hl, .inr ⟨d, _, rfl, upd_same, fun i n z h1 h2 => ?_⟩⟩
        exact zip_lookup (by simpa using hl.symm) hnd h1 (by rw [List.getElem?_map, h2]; rfl)
    · exact k.elim
theorem q_rais0 {c f : Nat} {D : Ends} {σ : L2.St} {H : Hp} (hlt : c < xt.num) (hz : (xt.xfn c).length = 0) (h : tS T xt W' (fun ws m => evS C ws m (.rais c f .nil)) D σ H) : W' (.ref (xt.xad c)) none σ H := by
  obtain ⟨F, ρ, m, ws, R, S, A⟩ := h
  simp only [evS, evEs, Res.toS_ok, intF] at A
  exact A F ρ H σ _ none R Le.rfl' .rfl' S ⟨rfl, hlt, hz.symm, .inl rfl⟩
/-! ### try: b; except C as n: return [n.f, ..] -/
def tXs (a : Addr) (cls : Value) (d : Option Addr) (Ca : Addr) (i : Nat) : List Str → TA
  | [] => tNil
  | f :: r => tCons (tXf a cls d Ca f (tVar i)) (tXs a cls d Ca i r)
theorem mXf_pa (G : CtxE C xt Γ T X W') {a Ca : Addr} {oe : Obj} {cls : Value} {d : Option Addr} {pn : List (Addr × Obj)} {nm : Str} {i : Nat} (hi : Γ.N[i]? = some nm) (hv : Γ.vis nm = true) (ho : okN nm = true) (xf : XfC X.K Ca) (hz : Zc cls d oe) (hf : ∃ vs, oe.data = .fields vs) :
    ∀ {fs : List Str} {es : List Expr}, (∀ f ∈ fs, PySem.W.findIn X.K (.ref Ca) f = some none) → mXf nm fs es = true → PA (X.suite a ((a, oe) :: pn)) es (tXs a cls d Ca i fs)
  | [], es, _, h => by
    unfold mXf at h
    cases es with
    | nil => exact pa_nil
    | cons _ _ => cases h
  | f :: r, es, hno, h => by
    unfold mXf at h
    split at h
    · rename_i y p g q s
      obtain ⟨h, h3⟩ := dec_and h
      obtain ⟨h1, h2⟩ := dec_and h
      cases of_decide_eq_true h1
      cases of_decide_eq_true h2
      obtain ⟨d1, d2, _⟩ := okN_d ho
      exact pa_cons (pe_xf xf (hno _ List.mem_cons_self) hz hf (pe_var (X := X.suite a ((a, oe) :: pn)) (slot_of G hi) (vis_of G hv) d1 d2) rfl) (mXf_pa G hi hv ho xf hz hf (fun f hf => hno f (List.mem_cons_of_mem _ hf)) h3) rfl
    · cases h
theorem fieldsF_at {F : Hp} {x : Xn} {fns : List Str} {fs : List (Str × V)} {a dd : Addr} {Ca : Addr} {i : Nat} {σ : L2.St} {H : Hp} (hH : H dd = some (.xd fs)) (hs : σ[i]? = some (some (.ref a))) (hl : ∀ (j : Nat) (n : Str) (z : Int), fns[j]? = some n → x.fs[j]? = some z → fs.lookup n = some (.int z)) :
    ∀ {r : List Str} {k : Nat} {ds : List D} {Q : List V → Hp → Prop}, fns.drop k = r → fieldsF x ((List.range r.length).map (· + k)) = some ds → (∀ vs, RDs T F vs ds → Q vs H) → tXs a (.ref Ca) (some dd) Ca i r σ H Q
  | [], k, ds, Q, _, e, q => by
    have : ds = [] := by simp [fieldsF] at e; exact e
    subst this
    exact q [] .nil
  | f :: r, k, ds, Q, hd, e, q => by
    have hk : fns[k]? = some f := by
      have := congrArg (·[0]?) hd
      simpa using this
    have hd2 : fns.drop (k + 1) = r := by
      rw [← List.drop_drop, hd]; rfl
    have er : ((List.range (f :: r).length).map (· + k)) = k :: (List.range r.length).map (· + (k + 1)) := by
      rw [List.length_cons, List.range_succ_eq_map, List.map_cons, List.map_map]
      congr 1
      · simp
      · apply List.map_congr_left
        intro b _
        simp; omega
    rw [er] at e
    unfold fieldsF at e
    split at e
    · rename_i z t e1 e2
      cases e
      refine ⟨_, hs, rfl, rfl, dd, fs, .int z, rfl, hH, hl k f z hk e1, ?_⟩
      exact fieldsF_at hH hs hl hd2 e2 fun vs hv => q _ (.cons (.int z) hv)
    · cases e
theorem fieldsF_len {x : Xn} : ∀ {r : List Nat} {ds : List D}, fieldsF x r = some ds → ds.length = r.length
  | [], ds, e => by cases e; rfl
  | f :: r, ds, e => by
    unfold fieldsF at e
    split at e
    · rename_i z t e1 e2
      cases e
      simp [fieldsF_len e2]
    · cases e
theorem q_tryF {b : Ss} {c i : Nat} {D : Ends} {σ : L2.St} {H : Hp} (hc : c < xt.num) (hsh : (xt.xfn c).length ≤ 10)
    (hxe : ∀ c c', c < xt.num → c' < xt.num → PySem.W.exmOne X.K (.ref (xt.xad c)) (.ref (xt.xad c')) = some (decide (c = c')))
    (h : tS T xt W' (fun ws m => evS C ws m (.tryF b c i (List.range (xt.xfn c).length))) D σ H) :
    tS T xt (wAs X.K (.ref (xt.xad c)) i (fun a cls d => tRet (tLst (tXs a cls d (xt.xad c) i (xt.xfn c)))) W' D) (fun ws m => evSs C ws m b) D σ H := by
  obtain ⟨F, ρ, m, ws, R, S, A⟩ := h
  simp only [evS] at A
  refine ⟨F, ρ, m, ws, R, S, ?_⟩
  show AfterS _ _ _ _ _ _ _ (evSs C ws m b)
  generalize evSs C ws m b = r at A
  cases r with
  | next ws m => exact A
  | ret w ws m => exact A
  | stuck => exact A.elim
  | exc x ws2 m2 =>
    intro F1 ρ1 H1 σ1 cls dx R1 l1 g1 S1 rx
    have rx' := rx
    obtain ⟨rfl, hlt, hfl, hfd⟩ := rx
    refine ⟨_, hxe x.cls c hlt hc, fun hb a ha => ?_, fun hb => ?_⟩
    · have hcc : x.cls = c := of_decide_eq_true hb
      subst hcc
      unfold catchF at A
      dsimp only at A
      rw [if_pos rfl] at A
      split at A
      · rename_i ds eds
        split at A
        rotate_left
        · exact A.elim
        rename_i hil
        have iσ : i < σ1.length := by rw [S1.1]; exact hil
        have fin : ∀ vs, RDs T F1 vs ds → vs.length ≤ sizeLine ∧ ∀ p, H1 p = none → D.rt (.ref p) (upd H1 p (.lst vs)) := fun vs hv => by
          refine ⟨?_, fun p hp => ?_⟩
          · rw [hv.length, fieldsF_len eds, List.length_range]
            have : sizeLine = 16777216 := rfl
            omega
          · exact A _ ρ1 _ _ (R1.grow hp) (l1.trans (Le.new (R1.sub.none hp))) g1 (RD.lst (.inl upd_same) (hv.mono (Le.new (R1.sub.none hp))))
        show tLst (tXs a (.ref (xt.xad x.cls)) dx (xt.xad x.cls) i (xt.xfn x.cls)) (σ1.set i (some (.ref a))) H1 D.rt
        rcases hfd with hnil | ⟨dd, fs, rfl, hF, hl⟩
        · have : xt.xfn x.cls = [] := List.eq_nil_of_length_eq_zero (by rw [← hfl, hnil]; rfl)
          rw [this] at eds ⊢
          have : ds = [] := by simp [fieldsF] at eds; exact eds
          subst this
          exact fin [] .nil
        · refine fieldsF_at (F := F1) (R1.sub _ _ hF) (List.getElem?_set_self iσ) hl (k := 0) rfl ?_ fin
          simpa using eds
      · exact A.elim
    · have hcc : x.cls ≠ c := of_decide_eq_false hb
      unfold catchF at A
      dsimp only at A
      rw [if_neg hcc] at A
      exact A F1 ρ1 H1 σ1 _ dx R1 l1 g1 S1 rx'
/-- try: b; except C: raise X(k) from None -/
def tsR (xt : Xt) (W' : WX) (x : Nat) (k : Int) : Addr → Value → Option Addr → TS := fun _ _ _ => fun _ σ H => tMkO (xt.xad x) (spX (xt.xad x) (xt.xfn x)) [] (tCons (tC (.int k)) tNil) σ H (fun cls d H' => W' cls d σ H')
theorem q_tryR {b : Ss} {c x f : Nat} {k : Int} {D : Ends} {σ : L2.St} {H : Hp} (hc : c < xt.num) (hx : x < xt.num) (h1 : (xt.xfn x).length = 1) (hnd : (xt.xfn x).Nodup)
    (hxe : ∀ c c', c < xt.num → c' < xt.num → PySem.W.exmOne X.K (.ref (xt.xad c)) (.ref (xt.xad c')) = some (decide (c = c')))
    (h : tS T xt W' (fun ws m => evS C ws m (.tryR b [c] x f k)) D σ H) : tS T xt (wOnly X.K (.ref (xt.xad c)) (tsR xt W' x k) W' D) (fun ws m => evSs C ws m b) D σ H := by
  obtain ⟨F, ρ, m, ws, R, S, A⟩ := h
  simp only [evS] at A
  refine ⟨F, ρ, m, ws, R, S, ?_⟩
  show AfterS _ _ _ _ _ _ _ (evSs C ws m b)
  generalize evSs C ws m b = r at A
  cases r with
  | next ws m => exact A
  | ret w ws m => exact A
  | stuck => exact A.elim
  | exc e ws2 m2 =>
    intro F1 ρ1 H1 σ1 cls dx R1 l1 g1 S1 rx
    have rx' := rx
    obtain ⟨rfl, hlt, hfl, hfd⟩ := rx
    refine ⟨_, hxe e.cls c hlt hc, fun hb a ha => ?_, fun hb => ?_⟩
    · have hcc : e.cls = c := of_decide_eq_true hb
      unfold catchR at A
      dsimp only at A
      rw [if_pos (by rw [hcc]; exact List.mem_cons_self)] at A
      refine ⟨by simp, fun a2 ha2 => ?_⟩
      rw [List.append_nil]
      refine ⟨a2, [V.int k], rfl, by rw [h1]; rfl, upd_same, fun d hd hda => ⟨rfl, d, ((xt.xfn x).zip [V.int k]).reverse, upd_same, by rw [upd_ne hda, upd_same], by rw [upd_ne hda] at hd; exact hd, ?_⟩⟩
      have hd' : H1 d = none := by rw [upd_ne hda] at hd; exact hd
      have e2 : upd (del (upd (upd (upd H1 a2 (exo a2 (xt.xad x) none)) d (exd d ((xt.xfn x).zip [V.int k]).reverse)) a2 (exo a2 (xt.xad x) (some d))) a2) d (.xd ((xt.xfn x).zip [V.int k]).reverse) = upd H1 d (.xd ((xt.xfn x).zip [V.int k]).reverse) := by
        funext b
        by_cases q1 : b = d
        · subst q1; rw [upd_same, upd_same]
        · rw [upd_ne q1, upd_ne q1]
          by_cases q2 : b = a2
          · subst q2; rw [del_same, ha2]
          · rw [del_ne q2, upd_ne q2, upd_ne q1, upd_ne q2]
      rw [e2]
      refine A _ ρ1 _ σ1 _ _ (R1.grow hd') (l1.trans (Le.new (R1.sub.none hd'))) g1 (S1.mono (Le.new (R1.sub.none hd')) .rfl') ⟨rfl, hx, by rw [h1]; rfl, .inr ⟨d, _, rfl, upd_same, fun i n z z1 z2 => ?_⟩⟩
      exact zip_lookup (ys := [V.int k]) (by rw [h1]; rfl) hnd z1 (by
        cases i with
        | zero => cases z2; rfl
        | succ i => cases z2)
    · have hcc : e.cls ≠ c := of_decide_eq_false hb
      unfold catchR at A
      dsimp only at A
      rw [if_neg (by simpa using hcc)] at A
      exact A F1 ρ1 H1 σ1 _ dx R1 l1 g1 S1 rx'
/-- try: b; except C: x = None -/
def tsN (i : Nat) : Addr → Value → Option Addr → TS := fun _ _ _ => tAsg (tC .non) (gName i)
theorem q_tryN0 {b : Ss} {c i : Nat} {D : Ends} {σ : L2.St} {H : Hp} (hc : c < xt.num)
    (hxe : ∀ c c', c < xt.num → c' < xt.num → PySem.W.exmOne X.K (.ref (xt.xad c)) (.ref (xt.xad c')) = some (decide (c = c')))
    (h : tS T xt W' (fun ws m => evS C ws m (.tryN b c i)) D σ H) : tS T xt (wOnly X.K (.ref (xt.xad c)) (tsN i) W' D) (fun ws m => evSs C ws m b) D σ H := by
  obtain ⟨F, ρ, m, ws, R, S, A⟩ := h
  simp only [evS] at A
  refine ⟨F, ρ, m, ws, R, S, ?_⟩
  show AfterS _ _ _ _ _ _ _ (evSs C ws m b)
  generalize evSs C ws m b = r at A
  cases r with
  | next ws m => exact A
  | ret w ws m => exact A
  | stuck => exact A.elim
  | exc x ws2 m2 =>
    intro F1 ρ1 H1 σ1 cls dx R1 l1 g1 S1 rx
    have rx' := rx
    obtain ⟨rfl, hlt, hfl, hfd⟩ := rx
    refine ⟨_, hxe x.cls c hlt hc, fun hb a ha => ?_, fun hb => ?_⟩
    · have hcc : x.cls = c := of_decide_eq_true hb
      unfold catchN at A
      dsimp only at A
      rw [if_pos hcc] at A
      exact A F1 ρ1 H1 _ R1 l1 g1 (S1.set i (w := .d .non) RD.non)
    · have hcc : x.cls ≠ c := of_decide_eq_false hb
      unfold catchN at A
      dsimp only at A
      rw [if_neg hcc] at A
      exact A F1 ρ1 H1 σ1 _ dx R1 l1 g1 S1 rx'
end
end Cn

/-! # matched statements and defs keep what the evaluator says -/
namespace Cn
open PySem PySem.Spec PyProof.Rows L2
theorem nc_sole {t e : Expr} {l : Nat} {env : Env} (h : nc e = true) : swapsWithSole [t] e l env = pure false := by
  cases e <;> first | rfl | cases h
theorem wi_self (T : Tx) : T.wi T.side = T := rfl
section
variable {C : Calls} {xt : Xt} {Γ : Gam} {T : Tx} {X : Cx} {W' : WX}
theorem mIt_pi (G : CtxE C xt Γ T X W') {tg : Expr} : ∀ {it : It} {pe : Expr}, mIt Γ it pe = true → L2.PI X tg pe (tI T xt W' fun ws m => evIt C ws m it)
  | .seq e, pe, h => by
    simp only [mIt] at h
    obtain ⟨h1, h2⟩ := dec_and h
    exact Cn.PI.imp (pi_seq G.hK (sE e pe G h2).1) fun σ H Q q => by
      simp only [evIt] at q
      exact q
  | .rng a b, pe, h => by
    simp only [mIt] at h
    split at h
    · obtain ⟨h, h5⟩ := dec_and h
      obtain ⟨h, h4⟩ := dec_and h
      obtain ⟨h, h3⟩ := dec_and h
      obtain ⟨h1, h2⟩ := dec_and h
      obtain ⟨rfl, b2, b3, b4⟩ := bi_of G h1
      have ha := pa_cons (sE a _ G h4).1 (pa_cons (sE b _ G h5).1 pa_nil (star_cons h3)) (star_cons h2)
      refine Cn.PI.imp (pi_range2 b2 b3 ha (by rw [star_cons h2, star_cons h3]; rfl) (by rw [star_cons h3]; rfl)) fun σ H Q q => ?_
      obtain ⟨F, ρ, m, ws, R, S, A⟩ := q
      simp only [evIt] at A
      refine ⟨F, ρ, m, ws, R, S, A.bind.imp (fun F1 ρ1 H1 m1 w r1 l1 g1 k x hx => ?_) fun _ _ _ z => z⟩
      refine ⟨F1, ρ1, m1, ws, r1, S.mono l1 g1, k.bind.imp (fun F2 ρ2 H2 m2 u r2 l2 g2 k2 y hy => ?_) fun _ _ _ z => z⟩
      split at k2
      · rename_i i j
        obtain ⟨g, k2⟩ := guard_ok k2
        obtain ⟨g, g4⟩ := dec_and g
        obtain ⟨g, g3⟩ := dec_and g
        obtain ⟨g1, g2'⟩ := dec_and g
        have e1 := RD.intV hx
        have e2 := RD.intV hy
        subst e1 e2
        have d1 := of_decide_eq_true g1
        have d2 := of_decide_eq_true g2'
        have d3 := of_decide_eq_true g3
        have d4 := of_decide_eq_true g4
        exact ⟨i, j, rfl, ⟨by omega, by omega, by omega, by omega⟩, k2.ok r2 _ walk_rng⟩
      · exact k2.elim
    · cases h
  | .enu _, pe, h => by simp only [mIt] at h; cases h
  | .zip _ _, pe, h => by simp only [mIt] at h; cases h
end
set_option maxHeartbeats 8000000 in
mutual
theorem sS {C : Calls} {xt : Xt} : ∀ (s : S) {Γ : Gam} {T : Tx} {X : Cx} {W' : WX} (st : Stmt), CtxS C xt Γ T X W' → mS Γ s st = true → PS X st (tS T xt W' fun ws m => evS C ws m s)
  | .asg i e, Γ, T, X, W', st, G, h => by
    unfold mS at h
    split at h
    · obtain ⟨h, h4⟩ := dec_and h
      obtain ⟨h, h3⟩ := dec_and h
      obtain ⟨h1, h2⟩ := dec_and h
      obtain ⟨t1, t2⟩ := tgt_of G.e h2
      exact (ps_set (nd_of G.e) (slot_of G.e (of_decide_eq_true h1)) t1 (sE e _ G.e h4).1 (nc_sw h3) t2).imp fun D σ H q => q_asg q
    · cases h
  | .asgT is e, Γ, T, X, W', st, G, h => by
    unfold mS at h
    split at h
    · obtain ⟨h, h4⟩ := dec_and h
      obtain ⟨h, h3⟩ := dec_and h
      obtain ⟨h1, h2⟩ := dec_and h
      obtain ⟨q1, q2, q3⟩ := mNames_of G.e h1
      exact (ps_asg (sE e _ G.e h4).1 (pg_tup G.e.calm q1 q2 q3) (nc_sole h2) (nt_st h3) rfl).imp fun D σ H q => q_asgT G.e.hK q
    · cases h
  | .ex e, Γ, T, X, W', st, G, h => by
    unfold mS at h
    split at h
    · obtain ⟨h1, h2⟩ := dec_and h
      exact (ps_expr (sE e _ G.e h2).1 (nc_sw h1)).imp fun D σ H q => q_ex q
    · cases h
  | .ret e, Γ, T, X, W', st, G, h => by
    unfold mS at h
    split at h
    · exact (ps_ret (sE e _ G.e h).1).imp fun D σ H q => q_ret q
    · cases h
  | .if_ c a b, Γ, T, X, W', st, G, h => by
    unfold mS at h
    split at h
    · obtain ⟨h, h4⟩ := dec_and h
      obtain ⟨h, h3⟩ := dec_and h
      obtain ⟨h1, h2⟩ := dec_and h
      exact (ps_if ((sE c _ G.e h2).2.1 h1) (sSs a _ G h3) (sSs b _ G h4)).imp fun D σ H q => q_if q
    · cases h
  | .wh c b, Γ, T, X, W', st, G, h => by
    unfold mS at h
    split at h
    · obtain ⟨h, h3⟩ := dec_and h
      obtain ⟨h1, h2⟩ := dec_and h
      exact (ps_while G.po ((sE c _ G.e h2).2.1 h1) (sSs b _ G h3)).imp fun D σ H q => q_wh q
    · cases h
  | .for_ g it b, Γ, T, X, W', st, G, h => by
    unfold mS at h
    split at h
    · obtain ⟨h, h4⟩ := dec_and h
      obtain ⟨h, h3⟩ := dec_and h
      obtain ⟨h1, h2⟩ := dec_and h
      exact (ps_for G.po G.e.calm (mIt_pi G.e h3) (mTg_of G.e h1) (sSs b _ G h4) (nset_fold h2 _)).imp fun D σ H q => q_for G.e.hK q
    · cases h
  | .rais c f es, Γ, T, X, W', st, G, h => by
    unfold mS at h
    split at h
    · obtain ⟨h, h5⟩ := dec_and h
      obtain ⟨h, h4⟩ := dec_and h
      obtain ⟨h, h3⟩ := dec_and h
      obtain ⟨h1, h2⟩ := dec_and h
      have K := G.xc c _ (of_decide_eq_true h1)
      obtain ⟨fI, fd, ps, k, m1, m2, m3, m4, m5⟩ := K.mkr
      obtain ⟨d1, _, _⟩ := okN_d h3
      have hne : xt.xfn c ≠ [] := fun z => by
        have e := of_decide_eq_true h4
        rw [← K.fn, z] at e
        cases es with
        | nil => unfold mEs at h5; cases h5
        | cons _ _ => cases e
      have m5 := m5.elim (fun q => q.2.1) fun q => absurd q.1 hne
      refine (L2N.ps_raise G.e.calm G.e.tkN (pmk_oexN K.ox m1 m2 m5 m4 m3 (fun _ _ _ _ _ _ _ c => ?_) (gl_of G.e h2) K.gC (sEs es _ G.e h5) d1 ?_ ?_)).imp fun D σ H q => q_rais K.lt K.nd K.short (by rw [K.fn]; exact of_decide_eq_true h4) q
      · obtain ⟨_, _, _, _, _, _, _, _, _, _, _, _, z⟩ := c
        exact z.elim
      · cases es with
        | nil => unfold mEs at h5; cases h5
        | cons e es => unfold mEs at h5; exact star_cons (dec_and (dec_and h5).1).1
      · cases es with
        | nil => unfold mEs at h5; cases h5
        | cons e es => unfold mEs at h5; exact mEs_star (dec_and h5).2
    · obtain ⟨h, h5⟩ := dec_and h
      obtain ⟨h, h4⟩ := dec_and h
      obtain ⟨h, h3⟩ := dec_and h
      obtain ⟨h1, h2⟩ := dec_and h
      have K := G.xc c _ (of_decide_eq_true h1)
      obtain ⟨fI, fd, ps, k, m1, m2, m3, m4, m5⟩ := K.mkr
      obtain ⟨d1, _, _⟩ := okN_d h3
      have hz : (xt.xfn c).length = 0 := by rw [K.fn]; exact of_decide_eq_true h4
      have hnil := List.eq_nil_of_length_eq_zero hz
      have m5 := m5.elim (fun q => absurd hnil q.1) fun q => q.2
      have hes : es = .nil := by
        cases es with
        | nil => rfl
        | cons _ _ => exact absurd (of_decide_eq_true h5) (Nat.succ_ne_zero _)
      subst hes
      refine (L2N.ps_raise G.e.calm G.e.tkN (pmk_bare K.ox m1 m2 m5 m4 m3 (fun _ _ _ _ _ _ _ c => ?_) (gl_of G.e h2) K.gC d1)).imp fun D σ H q => q_rais0 K.lt hz q
      obtain ⟨_, _, _, _, _, _, _, _, _, _, _, _, z⟩ := c
      exact z.elim
    · cases h
  | .tryF b c i fs, Γ, T, X, W', st, G, h => by
    unfold mS at h
    split at h
    · rename_i body y np nm es rp rp2 pos' pos
      obtain ⟨h, h9⟩ := dec_and h
      obtain ⟨h, h8⟩ := dec_and h
      obtain ⟨h, h7⟩ := dec_and h
      obtain ⟨h, h6⟩ := dec_and h
      obtain ⟨h, h5⟩ := dec_and h
      obtain ⟨h, h4⟩ := dec_and h
      obtain ⟨h, h3⟩ := dec_and h
      obtain ⟨h1, h2⟩ := dec_and h
      have K := G.xc c _ (of_decide_eq_true h1)
      obtain ⟨d1, _, _⟩ := okN_d h3
      have hi := of_decide_eq_true h5
      have hloc := of_decide_eq_true h6
      have hvis : Γ.vis nm = true := by unfold Gam.vis; rw [hloc]
      have hk : X.env.kindOf nm = some .local := by
        show X.env.scope.names.lookup nm = some .local
        rw [G.e.sc]; exact hloc
      have hfs := of_decide_eq_true h7
      rw [← K.fn] at hfs
      subst hfs
      rw [← K.fn] at h8
      have suite : ∀ (a : Addr) (oe : Obj) (cls : Value) (d : Option Addr) (pn : List (Addr × Obj)), Zc cls d oe → (∃ vs, oe.data = .fields vs) → PSs (X.suite a ((a, oe) :: pn)) [.Return (some (.List es rp)) rp2] (tRet (tLst (tXs a cls d (xt.xad c) i (xt.xfn c)))) :=
        fun a oe cls d pn hz hf => pss_one (ps_ret (pe_lst (mXf_pa G.e hi hvis h4 K.xf hz hf K.no h8)))
      cases hn : Γ.n with
      | true =>
        refine (L2N.ps_try_as (tb := fun W => tS T xt W fun ws m => evSs C ws m b) (ts := fun a cls d => tRet (tLst (tXs a cls d (xt.xad c) i (xt.xfn c)))) (Wout := W') G.stk G.frm (nd_of G.e) (slot_of G.e hi) hk ⟨gl_of G.e h2, d1, .inl K.gC⟩ G.e.tkN
          (fun W pn xe tk po => sSs b _ (G.tr tk (fun z => by rw [hn] at z; cases z) po) h9) (fun a oe cls d pn hz hf => suite a oe cls d pn hz.zc hf)).imp fun D σ H q => ?_
        exact q_tryF K.lt K.short G.xe q
      | false =>
        refine (ps_try_as (tb := fun W => tS T xt W fun ws m => evSs C ws m b) (ts := fun a cls d => tRet (tLst (tXs a cls d (xt.xad c) i (xt.xfn c)))) (Wout := W') G.stk G.frm (nd_of G.e) (slot_of G.e hi) hk ⟨gl_of G.e h2, d1, .inl K.gC⟩ (G.e.tk2 hn)
          (fun W pn xe tk po => sSs b _ (G.tr (takesN tk) (fun _ => tk) po) h9) suite).imp fun D σ H q => ?_
        exact q_tryF K.lt K.short G.xe q
    · cases h
  | .fzs i, Γ, T, X, W', st, G, h => by unfold mS at h; cases h
  | .seta c f o e, Γ, T, X, W', st, G, h => by
    unfold mS at h
    split at h
    · obtain ⟨h, h4⟩ := dec_and h
      obtain ⟨h, h3⟩ := dec_and h
      obtain ⟨h1, h2⟩ := dec_and h
      obtain ⟨kc, hf⟩ := fld_of G.e h1
      exact (ps_fld (sE o _ G.e h3).1 (sE e _ G.e h4).1 (nc_sw h2)).imp fun D σ H q => q_seta kc hf q
    · cases h
  | .setx o k e, Γ, T, X, W', st, G, h => by
    unfold mS at h
    split at h
    · obtain ⟨h, h4⟩ := dec_and h
      obtain ⟨h, h3⟩ := dec_and h
      obtain ⟨h1, h2⟩ := dec_and h
      exact (ps_dput (by have := G.e.un; omega) (sE o _ G.e h2).1 (sE k _ G.e h3).1 (sE e _ G.e h4).1 (nc_sw h1)).imp fun D σ H q => q_setx q
    · cases h
  | .auga c f b o e, Γ, T, X, W', st, G, h => by
    unfold mS at h
    split at h
    · obtain ⟨h, h5⟩ := dec_and h
      obtain ⟨h, h4⟩ := dec_and h
      obtain ⟨h, h3⟩ := dec_and h
      obtain ⟨h1, h2⟩ := dec_and h
      obtain ⟨kc, hf⟩ := fld_of G.e h1
      cases of_decide_eq_true h2
      have hb : b = .add ∨ b = .sub := by
        rcases Bool.or_eq_true _ _ |>.mp h3 with z | z
        · exact .inl (of_decide_eq_true z)
        · exact .inr (of_decide_eq_true z)
      exact (ps_fldaug (sE o _ G.e h4).1 (sE e _ G.e h5).1 (in_A hb)).imp fun D σ H q => q_auga kc hf q
    · cases h
  | .setl o k e, Γ, T, X, W', st, G, h => by unfold mS at h; cases h
  | .augl b o k e, Γ, T, X, W', st, G, h => by unfold mS at h; cases h
  | .augx b o k e, Γ, T, X, W', st, G, h => by unfold mS at h; cases h
  | .tryN b c i, Γ, T, X, W', st, G, h => by
    unfold mS at h
    split at h
    · rename_i body y np z zp k2 k3 sp hp tp
      obtain ⟨h, h6⟩ := dec_and h
      obtain ⟨h, h5⟩ := dec_and h
      obtain ⟨h, h4⟩ := dec_and h
      obtain ⟨h, h3⟩ := dec_and h
      obtain ⟨h1, h2⟩ := dec_and h
      have K := G.xc c _ (of_decide_eq_true h1)
      obtain ⟨d1, _, _⟩ := okN_d h3
      have hi := of_decide_eq_true h4
      have hloc := of_decide_eq_true h5
      have hl : X.env.scope.names.lookup z = some .local := by rw [G.e.sc]; exact hloc
      have suite : ∀ (a : Addr) (oe : Obj) (pn : List (Addr × Obj)), PSs (X.suite a ((a, oe) :: pn)) [.Assign [.Name z zp] (.Constant .none k2 k3) sp] (tAsg (tC .non) (gName i)) := fun a oe pn =>
        pss_one (ps_set (X := X.suite a ((a, oe) :: pn)) (show X.N.Nodup from nd_of G.e) (show X.N[i]? = some z from slot_of G.e hi) (.inl hl) pe_non rfl (.inr hl))
      cases hn : Γ.n with
      | true =>
        refine (L2N.ps_try_many (tb := fun W => tS T xt W fun ws m => evSs C ws m b) (Wout := W') (l := [(.ref (xt.xad c), tsN i)]) G.stk G.frm G.e.tkN
          (fun W pn xe tk po => sSs b _ (G.tr tk (fun z => by rw [hn] at z; cases z) po) h6) (.cons ⟨gl_of G.e h2, d1, .inl K.gC⟩ (fun a oe cls d pn _ _ => suite a oe pn) .nil)).imp fun D σ H q => ?_
        exact q_tryN0 (X := X) K.lt G.xe q
      | false =>
        refine (ps_try_only (tb := fun W => tS T xt W fun ws m => evSs C ws m b) (ts := tsN i) (Wout := W') G.stk G.frm ⟨gl_of G.e h2, d1, .inl K.gC⟩ (G.e.tk2 hn)
          (fun W pn xe tk po => sSs b _ (G.tr (takesN tk) (fun _ => tk) po) h6) (fun a oe cls d pn _ _ => suite a oe pn)).imp fun D σ H q => ?_
        exact q_tryN0 (X := X) K.lt G.xe q
    · cases h
  | .tryR b cs x f k, Γ, T, X, W', st, G, h => by
    unfold mS at h
    split at h
    · split at h
      · rename_i c
        obtain ⟨h, k13⟩ := dec_and h
        obtain ⟨h, k12⟩ := dec_and h
        obtain ⟨h, k11⟩ := dec_and h
        obtain ⟨h, k10⟩ := dec_and h
        obtain ⟨h, k9⟩ := dec_and h
        obtain ⟨h, k8⟩ := dec_and h
        obtain ⟨h, k7⟩ := dec_and h
        obtain ⟨h, k6⟩ := dec_and h
        obtain ⟨h, k5⟩ := dec_and h
        obtain ⟨h, k4⟩ := dec_and h
        obtain ⟨h, k3⟩ := dec_and h
        obtain ⟨k1, k2⟩ := dec_and h
        have Kc := G.xc c _ (of_decide_eq_true k1)
        have Kx := G.xc x _ (of_decide_eq_true k4)
        obtain ⟨d1, _, _⟩ := okN_d k3
        obtain ⟨d2, _, _⟩ := okN_d k6
        obtain ⟨d3, _, _⟩ := okN_d k10
        have h1 : (xt.xfn x).length = 1 := by rw [Kx.fn]; exact of_decide_eq_true k7
        have hne : xt.xfn x ≠ [] := fun z => by rw [z] at h1; cases h1
        obtain ⟨fI, fd, ps, kk, m1, m2, m3, m4, m5⟩ := Kx.mkr
        have m6 := m5.elim (fun q => q.2.2) fun q => absurd q.1 hne
        obtain ⟨u, hu, ru⟩ := G.e.nums _ k (of_decide_eq_true k8)
        have hn : Γ.n = false := by simpa using k12
        refine (L2H.ps_try_onlyX (tb := fun W => tS T xt W fun ws m => evSs C ws m b) (ts := tsR xt W' x k) (Wout := W') G.stk G.frm ⟨gl_of G.e k2, d1, .inl Kc.gC⟩ (G.pa k11) (G.e.tk2 hn)
          (fun W pn xe tk _ po => sSs b _ (G.trN tk po) k13) fun a oe cls d pn hz hf tk hot => pss_one (L2H.ps_raiseHN hot tk ?_)).imp fun D σ H q => ?_
        · refine L2H.pmk5_oexH (X := L2H.suiteX X a ((a, oe) :: pn)) Kx.ox m1 m2 m6 (L2H.roomH_mark m4 _) hot m3 (fun _ _ _ _ _ _ _ c => ?_) (gl_of G.e k5) Kx.gC (pa_cons (pe_glob (X := L2H.suiteX X a ((a, oe) :: pn)) (gl_of G.e k9) hu ru d3) pa_nil rfl) d2 rfl rfl
          obtain ⟨_, _, _, _, _, _, _, _, _, _, _, _, z⟩ := c
          exact z.elim
        · exact q_tryR Kc.lt Kx.lt h1 Kx.nd G.xe q
      · cases h
    · cases h
  | .base, Γ, T, X, W', st, G, h => by unfold mS at h; cases h
theorem sSs {C : Calls} {xt : Xt} : ∀ (s : Ss) {Γ : Gam} {T : Tx} {X : Cx} {W' : WX} (st : List Stmt), CtxS C xt Γ T X W' → mSs Γ s st = true → PSs X st (tS T xt W' fun ws m => evSs C ws m s)
  | .nil, Γ, T, X, W', st, G, h => by
    unfold mSs at h
    cases st with
    | nil => exact pss_nil.imp fun D σ H q => q_nil q
    | cons _ _ => cases h
  | .cons s r, Γ, T, X, W', st, G, h => by
    unfold mSs at h
    split at h
    · rename_i hz
      obtain ⟨i, rfl⟩ := isFz_eq hz
      exact (sSs r st G h).imp fun D σ H q => q_fzs q
    · split at h
      · obtain ⟨h1, h2⟩ := dec_and h
        exact (pss_cons (sS s _ G h1) (sSs r _ G h2)).imp fun D σ H q => q_cons q
      · cases h
end
end Cn

/-! # defs -/
namespace Cn
open PySem PySem.Spec PyProof.Rows L2
/-- a def's text: its parameters' names first among N -/
structure Dx where
  nm : Str
  qual : Str
  params : Arguments
  body : List Stmt
  scope : Scope
  N : List Str
  ps : List Str
structure XcK (xt : Xt) (tb : Tb) (P : Program) (w : World) (K : PySem.W.Frag) (mg : Str → Option Value) (base : Heap) (c : Nat) (y : Str) : Prop where
  lt : c < xt.num
  gC : mg y = some (.ref (xt.xad c))
  ox : OexC K (xt.xad c)
  xf : XfC K (xt.xad c)
  nd : (xt.xfn c).Nodup
  no : ∀ f ∈ xt.xfn c, PySem.W.findIn K (.ref (xt.xad c)) f = some none
  fn : xt.xfn c = tb.xf.getD c []
  short : (xt.xfn c).length ≤ 10
  mkr : ∃ fI fd ps, PySem.W.findIn K (.ref (xt.xad c)) "__init__" = some (some (.ref fI)) ∧ PySem.W.typeIn K (.ref fI) = some (.type "function") ∧ Binds K fd ps [] ∧
    ((xt.xfn c ≠ [] ∧ FnOk P w K mg base (L2.CX P w) 1 fI fd ps (spX (xt.xad c) (xt.xfn c)) ∧ L2H.FnH P w K mg base (L2.CX P w) 1 fI fd ps (spX (xt.xad c) (xt.xfn c))) ∨ (xt.xfn c = [] ∧ FnOk P w K mg base (L2.CX P w) 1 fI fd ps (spB (xt.xad c))))
/-- what the top has written -/
structure Glob (P : Program) (w : World) (K : PySem.W.Frag) (mg : Str → Option Value) (base : Heap) (xt : Xt) (tb : Tb) (dfs : List Df) (dx : Nat → Option Dx) (T : Tx) : Prop where
  nums : ∀ x i, tb.nums.lookup x = some i → ∃ u, mg x = some u ∧ RelV (.int i) u
  tups : ∀ p ∈ tb.tups, ∃ v u, mg p.1 = some u ∧ RelV v u ∧ RK K v p.2
  free : ∀ x ∈ tb.free, mg x = none
  dics : ∀ x ps, tb.dics.lookup x = some ps → ∃ a, mg x = some (.ref a) ∧ diB K a ps = true
  txts : ∀ x cs, tb.txts.lookup x = some cs → ∃ u, mg x = some u ∧ RelV (.str (strV cs)) u
  dicS : ∀ x ps, tb.dicS.lookup x = some ps → ∃ a es n, mg x = some (.ref a) ∧ KDict K w a es n ∧ dsB K a ps = true
  cls : ∀ c y, tb.cn[c]? = some (some y) → ClOk K T c ∧ T.fn c = tb.cf.getD c [] ∧ mg y = some (.ref (T.cad c)) ∧ PySem.W.makesIn K (T.cad c) = true ∧ PySem.W.keepIn K (.ref (T.cad c)) = true
  dn : ∀ (f : Nat) (x : Str), tb.dn[f]? = some (some x) → ∃ d, dx f = some d
  mt : ∀ (f c : Nat) (x : Str), tb.mt[f]? = some (some (c, x)) → ∃ d, dx f = some d
  fn : ∀ (f : Nat) (d : Dx), dx f = some d → ∃ a fd, FunD K d.nm d.qual d.params d.body d.scope [] [] a fd ∧ Binds K fd d.ps [] ∧ (∀ x, tb.dn[f]? = some (some x) → mg x = some (.ref a)) ∧ ∀ c n, tb.mt[f]? = some (some (c, n)) → Meth K (T.cad c) n a
  st : ∀ (f : Nat) (d : Dx), dx f = some d → ∃ df, dfs[f]? = some df ∧ FnScope d.N d.ps d.scope ∧ df.np = d.ps.length ∧ df.ns = d.N.length ∧ mSs ⟨tb, d.N, d.scope, true, tb.md.getD f false, true⟩ df.body d.body = true
  xc : ∀ (c : Nat) (y : Str), tb.xn[c]? = some y → XcK xt tb P w K mg base c y
  xe : ∀ (c c' : Nat), c < xt.num → c' < xt.num → PySem.W.exmOne K (.ref (xt.xad c)) (.ref (xt.xad c')) = some (decide (c = c'))
section
variable {P : Program} {w : World} {K : PySem.W.Frag} {mg : Str → Option Value} {base : Heap} {xt : Xt} {tb : Tb} {dfs : List Df} {dx : Nat → Option Dx} {T : Tx}
theorem takeN (b : Bool) {X : Cx} {E : XK} (hs : X.stack = X.env :: X.outer) (hf : X.env.frame = some X.env.locals) (hex : X.ex = []) {E₁ : Value → Shared → Prop}
    (hx : X.xe = fun e s' => wpAny (model X.prog X.w) X.A (leaving X.env e) (fun _ s'' => cxM b X.prog X.w X.outer X.H_0 X.s_0 E e s'') E₁ s') : L2N.Takes X (fun cls d _ H => E cls d H) := by
  cases b with
  | true => exact L2N.takes_of hs hf hex hx
  | false => exact takesN (takes_of hs hf hex hx)
theorem take2 (b : Bool) {X : Cx} {E : XK} (hs : X.stack = X.env :: X.outer) (hf : X.env.frame = some X.env.locals) (hex : X.ex = []) {E₁ : Value → Shared → Prop}
    (hx : X.xe = fun e s' => wpAny (model X.prog X.w) X.A (leaving X.env e) (fun _ s'' => cxM b X.prog X.w X.outer X.H_0 X.s_0 E e s'') E₁ s') (hb : b = false) : L2.Takes X (fun cls d _ H => E cls d H) := by
  subst hb
  exact takes_of hs hf hex hx
theorem spA_zero {f : Nat} {vs : List V} {H : Hp} {Q : VK} {E : XK} (h : spA T xt (run dfs 0 f) vs H Q E) : False := by
  obtain ⟨s, F, ρ, m, ws, R, hv, A⟩ := h
  exact A
theorem run_succ {n f : Nat} {d : Df} (h : dfs[f]? = some d) (ws : List W) (m : Mu) : run dfs (n + 1) f ws m = runD (run dfs n) d ws m := by
  show (match dfs[f]? with | some d => runD (run dfs n) d ws m | none => .stuck) = _
  rw [h]
theorem rsl_start {F : Hp} {ρ : Ro} {vs : List V} {ws : List W} {N : List Str} {d : Df} (hv : RWs T F ρ vs ws) (hl : ws.length = d.np) (hn : d.ns = N.length) : RSl T F ρ (L2.start N vs) (Cn.start d ws) := by
  have hvl : vs.length = ws.length := PairedLen hv
  unfold L2.start Cn.start
  refine ⟨by simp [hvl, hl, hn], fun i w e => ?_⟩
  by_cases hi : i < ws.length
  · rw [List.getElem?_append_left (by simpa using hi), List.getElem?_map] at e
    cases e1 : ws[i]? with
    | none => rw [e1] at e; cases e
    | some w' =>
      rw [e1] at e
      cases e
      obtain ⟨v, e2, h⟩ := paired_get hv e1
      refine ⟨v, ?_, h⟩
      rw [List.getElem?_append_left (by simp; omega), List.getElem?_map, e2]
      rfl
  · rw [List.getElem?_append_right (by simp; omega), List.getElem?_replicate] at e
    split at e <;> cases e
theorem fnok (hT : K = T.K) (G : Glob P w K mg base xt tb dfs dx T) : ∀ (n f : Nat) (d : Dx), dx f = some d → ∃ a fd, FunD K d.nm d.qual d.params d.body d.scope [] [] a fd ∧ Binds K fd d.ps [] ∧ (∀ x, tb.dn[f]? = some (some x) → mg x = some (.ref a)) ∧ (∀ c n, tb.mt[f]? = some (some (c, n)) → Meth K (T.cad c) n a) ∧
    FnOk P w K mg base (cxM (tb.md.getD f false) P w) (2 * n + 2) a fd d.ps (spA T xt (run dfs n f))
  | 0, f, d, hd => by
    obtain ⟨a, fd, h1, h2, h3, h3'⟩ := G.fn f d hd
    exact ⟨a, fd, h1, h2, h3, h3', fun vs H Q E h => (spA_zero h).elim, fun A outer s H args us vs Q E _ _ _ _ h => (spA_zero h).elim⟩
  | n + 1, f, d, hd => by
    obtain ⟨a, fd, h1, h2, h3, h3'⟩ := G.fn f d hd
    obtain ⟨df, e1, sc, np, ns, hm⟩ := G.st f d hd
    have good : ∀ {s F ρ m ws vs} {Q : VK} {E : XK}, RWs (T.wi s) F ρ vs ws → After (T.wi s) xt F ρ (run dfs (n + 1) f ws m) (KV1 (T.wi s) Q) (fun c dx H' => E c dx H') → ws.length = df.np ∧
        After (T.wi s) xt F ρ (endS m.length (evSs (run dfs n) (Cn.start df ws) m df.body)) (KV1 (T.wi s) Q) (fun c dx H' => E c dx H') := by
      intro s F ρ m ws vs Q E hv A
      rw [run_succ e1] at A
      unfold runD at A
      split at A
      · rename_i hl; exact ⟨hl, A⟩
      · exact A.elim
    refine ⟨a, fd, h1, h2, h3, h3', h1.ok sc (fun vs H Q E h => ?_) (fun cdv A outer s H vs Q E hr h => ?_)⟩
    · obtain ⟨s, F, ρ, m, ws, R, hv, A⟩ := h
      rw [PairedLen hv, (good hv A).1, np]
    · obtain ⟨sd, F, ρ, m, ws, R, hv, A⟩ := h
      obtain ⟨hl, A⟩ := good hv A
      refine ⟨_, sSs (C := run dfs n) (xt := xt) (Γ := ⟨tb, d.N, d.scope, true, tb.md.getD f false, true⟩) (T := T.wi sd) (W' := fun cls d _ H => E cls d H) df.body d.body ?_ hm, F, ρ, m, Cn.start df ws, R, rsl_start hv hl ns, ?_⟩
      · refine ⟨⟨hT, rfl, sc.nd, rfl, rfl, ?_, fun _ _ => rfl, takeN _ rfl rfl rfl rfl, take2 _ rfl rfl rfl rfl, G.nums, (by intro p hp; have q := G.tups p hp; rw [hT] at q; exact q), G.free, G.dics, G.txts, G.dicS, (fun c y hc => by
            obtain ⟨k, r⟩ := G.cls c y hc
            exact ⟨⟨k.cls, k.na, k.nd, k.short⟩, r⟩), fun g c y hg => ?_, fun g x hg => ?_⟩, passes_of rfl, rfl, rfl, fun _ hd => L2H.passesAt_of rfl hd, fun c y hc => ?_, G.xe⟩
        · have := hr.un
          have e : ∀ k : Nat, k + 16 * (2 * n + 3) + 200 < cLine → k + 66 < cLine := fun k h => by omega
          exact e _ this
        · obtain ⟨d', hd'⟩ := G.mt g c y hg
          obtain ⟨a', fd', i1, i2, i3, i3', i4⟩ := fnok hT G n g d' hd'
          exact ⟨a', fd', d'.ps, 2 * n + 2, i3' c y hg, i2, hr, i4⟩
        · obtain ⟨d', hd'⟩ := G.dn g x hg
          obtain ⟨a', fd', i1, i2, i3, i3', i4⟩ := fnok hT G n g d' hd'
          exact ⟨a', fd', d'.ps, 2 * n + 2, i3 x hg, i1.kp, i2, hr.mono (by omega), i4⟩
        · have q := G.xc c y hc
          obtain ⟨fI, fdI, psI, m1, m2, m3, m4⟩ := q.mkr
          exact ⟨q.lt, q.gC, q.ox, q.xf, q.nd, q.no, q.fn, q.short, fI, fdI, psI, 1, m1, m2, m3, hr.mono (by omega), m4⟩
      · exact (end_ok (D := ⟨fun _ _ => False, fun _ _ => False, fun _ _ => False, fun _ _ => False⟩) R.len A).imp (fun _ _ z => z) rfl
end
/-! ### __init__ of an exception: ValueError.__init__(self, 'm'); self.f = f; .. -/
def mIn : Nat → List Str → List Stmt → Bool
  | _, [], st => st.isEmpty
  | j, f :: r, st => (match st with
    | .Assign [.Attribute (.Name s _) g _] (.Name y _) _ :: t => decide (s = ("self" : Str)) && decide (g = f) && decide (y = f) && okN f && mIn (j + 1) r t
    | _ => false)
def mInit (fns : List Str) : List Stmt → Bool
  | .Expr (.Call (.Attribute (.Name v _) i p2) [.Name s _, .Constant (.str _) _ _] [] p5) _ :: t => decide (v = ("ValueError" : Str)) && decide (i = ("__init__" : Str)) && decide (s = ("self" : Str)) && (p2.endLine == p5.line) && mIn 1 fns t
  | _ => false
section
variable {P : Program} {w : World} {K : PySem.W.Frag} {mg : Str → Option Value} {base : Heap}
/-- the assignments behind the first: the dict stands at d -/
def tOsts (K : PySem.W.Frag) : Nat → List Str → TS
  | _, [] => tNext
  | j, f :: r => tSeq (tOst K f (tVar 0) (tVar j)) (tOsts K (j + 1) r)
theorem mIn_ps {X : Cx} {N : List Str} (hN : X.N = N) (nd : N.Nodup) (h0 : N[0]? = some ("self" : Str)) (hs : X.env.scope.names.lookup ("self" : Str) = some .local) : ∀ {fns : List Str} {j : Nat} {st : List Stmt},
    (∀ (i : Nat) (f : Str), fns[i]? = some f → N[j + i]? = some f ∧ X.env.scope.names.lookup f = some .local) → mIn j fns st = true → PSs X st (tOsts X.K j fns)
  | [], j, st, _, h => by
    unfold mIn at h
    cases st with
    | nil => exact pss_nil
    | cons _ _ => cases h
  | f :: r, j, st, hf, h => by
    unfold mIn at h
    split at h
    · obtain ⟨h, h5⟩ := dec_and h
      obtain ⟨h, h4⟩ := dec_and h
      obtain ⟨h, h3⟩ := dec_and h
      obtain ⟨h1, h2⟩ := dec_and h
      cases of_decide_eq_true h1
      cases of_decide_eq_true h2
      cases of_decide_eq_true h3
      obtain ⟨d1, d2, _⟩ := okN_d h4
      obtain ⟨g1, g2⟩ := hf 0 _ rfl
      refine pss_cons (ps_ost (pe_var (by rw [hN]; exact h0) (.inl hs) (by decide +kernel) (by decide +kernel)) (pe_var (by rw [hN]; exact g1) (.inl g2) d1 d2) rfl) (mIn_ps hN nd h0 hs (fun i f' e => ?_) h5)
      have := hf (i + 1) f' e
      rw [show j + 1 + i = j + (i + 1) by omega]
      exact this
    · cases h
theorem osts_ok {Ca a : Addr} {no : ∀ f : Str, Prop} (ox : OexC K Ca) {σ : L2.St} {H0 : Hp} {D : Ends} (ha : H0 a = some (exo a Ca none)) (hs : σ[0]? = some (some (.ref a))) : ∀ {fns : List Str} {ys : List V} {j : Nat} {acc : List (Str × V)} {d : Addr} , H0 d = none → d ≠ a → fns.length = ys.length → acc.length + fns.length ≤ 900 →
    (∀ f ∈ fns, PySem.W.findIn K (.ref Ca) f = some none) → (∀ (i : Nat) (y : V), ys[i]? = some y → σ[j + i]? = some (some y)) → D.nx σ (upd (upd H0 d (exd d ((fns.zip ys).reverse ++ acc))) a (exo a Ca (some d))) →
    tOsts K j fns D σ (upd (upd H0 d (exd d acc)) a (exo a Ca (some d)))
  | [], [], j, acc, d, hd, hda, hl, hz, hno, hy, q => q
  | [], _ :: _, j, acc, d, hd, hda, hl, hz, hno, hy, q => by simp at hl
  | _ :: _, [], j, acc, d, hd, hda, hl, hz, hno, hy, q => by simp at hl
  | f :: r, y :: s, j, acc, d, hd, hda, hl, hz, hno, hy, q => by
    refine ⟨y, hy 0 y rfl, _, hs, a, Ca, rfl, ox, hno f List.mem_cons_self, .inr ⟨d, acc, upd_same, by rw [upd_ne hda, upd_same], by simp at hz; omega, ?_⟩⟩
    have e : upd (upd (upd H0 d (exd d acc)) a (exo a Ca (some d))) d (exd d ((f, y) :: acc)) = upd (upd H0 d (exd d ((f, y) :: acc))) a (exo a Ca (some d)) := by
      funext b
      by_cases h1 : b = d
      · subst h1; rw [upd_same, upd_ne hda, upd_same]
      · rw [upd_ne h1]
        by_cases h2 : b = a
        · subst h2; rw [upd_same, upd_same]
        · rw [upd_ne h2, upd_ne h2, upd_ne h1, upd_ne h1]
    rw [e]
    refine osts_ok (no := no) ox ha hs hd hda (by simpa using hl) (by simp at hz ⊢; omega) (fun f hf => hno f (List.mem_cons_of_mem _ hf)) (fun i y' e => ?_) ?_
    · have := hy (i + 1) y' e
      rw [show j + 1 + i = j + (i + 1) by omega]
      exact this
    · simpa using q
theorem init_ps {X : Cx} {body : List Stmt} {g : Str} {fns : List Str} (hN : X.N = (("self" : Str) :: g :: fns)) (nd : (("self" : Str) :: g :: fns).Nodup) (vV : PySem.W.findCls X.K (.type "ValueError") (.type "type") "__init__" = some (.val (.builtin "ValueError.__init__"))) (gV : Gl X "ValueError") (mV : X.mg "ValueError" = none)
    (hl : ∀ x ∈ (("self" : Str) :: g :: fns), X.env.scope.names.lookup x = some .local) (hm : mInit (g :: fns) body = true) :
    ∃ m, PSs X body (tSeq (tDrop (tVeI X.K (tCons (tVar 0) (tCons (tC (.str m)) tNil)))) (tOsts X.K 1 (g :: fns))) := by
  unfold mInit at hm
  split at hm
  · rename_i v p1 i p2 sn p3 m j p4 p5 p6 t
    obtain ⟨hm, h4⟩ := dec_and hm
    obtain ⟨hm, h5⟩ := dec_and hm
    obtain ⟨hm, h3⟩ := dec_and hm
    obtain ⟨h1, h2⟩ := dec_and hm
    cases of_decide_eq_true h1
    cases of_decide_eq_true h2
    cases of_decide_eq_true h3
    have pself : PE X (.Name "self" p3) (tVar 0) := pe_var (by rw [hN]; rfl) (.inl (hl _ List.mem_cons_self)) (by decide +kernel) (by decide +kernel)
    refine ⟨m, pss_cons (ps_expr (pe_veinit gV mV vV (pa_cons pself (pa_cons pe_str pa_nil)) (meth_eval rfl h5 rfl)) rfl)
      (mIn_ps hN nd rfl (hl _ List.mem_cons_self) (fun i x e => ?_) h4)⟩
    refine ⟨?_, hl x (List.mem_cons_of_mem _ (List.mem_of_getElem? e))⟩
    rw [Nat.add_comm 1 i]
    exact e
  · cases hm
theorem init_rd {Ca : Addr} {g : Str} {fns : List Str} {m : Str} {vs : List V} {H : Hp} {Q : VK} {E : XK} (ox : OexC K Ca) (no : ∀ x ∈ g :: fns, PySem.W.findIn K (.ref Ca) x = some none) (hsh : (g :: fns).length ≤ 10) (h : spX Ca (g :: fns) vs H Q E) :
    tSeq (tDrop (tVeI K (tCons (tVar 0) (tCons (tC (.str m)) tNil)))) (tOsts K 1 (g :: fns)) { nx := fun _ H' => Q .non H', rt := Q } (L2.start (("self" : Str) :: g :: fns) vs) H := by
  obtain ⟨a, ys, rfl, hy, ha, k⟩ := h
  cases ys with
  | nil => simp at hy
  | cons y ys =>
    have hs0 : (L2.start (("self" : Str) :: g :: fns) (V.ref a :: y :: ys))[0]? = some (some (.ref a)) := rfl
    have hsy : ∀ (i : Nat) (z : V), (y :: ys)[i]? = some z → (L2.start (("self" : Str) :: g :: fns) (V.ref a :: y :: ys))[1 + i]? = some (some z) := fun i z e => by
      unfold L2.start
      rw [List.getElem?_append_left (by
        have := (List.getElem?_eq_some_iff.mp e).1
        simp at this ⊢; omega), List.getElem?_map, Nat.add_comm 1 i]
      show Option.map some ((y :: ys)[i]?) = _
      rw [e]; rfl
    refine ⟨_, hs0, a, Ca, [V.str m], rfl, (by simp), ox, ha, ?_⟩
    refine ⟨y, hsy 0 y rfl, _, hs0, a, Ca, rfl, ox, no g List.mem_cons_self, .inl ⟨ha, fun d hd hda => ?_⟩⟩
    have hy' : fns.length = ys.length := by simpa using hy.symm
    refine osts_ok (no := fun _ => True) ox ha hs0 hd hda hy' (by simp at hsh ⊢; omega) (fun x hx => no x (List.mem_cons_of_mem _ hx)) (fun i z e => ?_) ?_
    · have := hsy (i + 1) z e
      rw [show 1 + 1 + i = 1 + (i + 1) by omega]
      exact this
    · have := k d hd hda
      simpa using this
/-- __init__ keeps its promise: one field at least; where another exception is being handled too -/
theorem init_ok {qual : Str} {params : Arguments} {body : List Stmt} {scope : Scope} {f Ca : Addr} {fd : FuncData} {g : Str} {fns : List Str} (F1 : FunD K ("__init__" : Str) qual params body scope [] [] f fd) (sc : FnScope (("self" : Str) :: g :: fns) (("self" : Str) :: g :: fns) scope)
    (ox : OexC K Ca) (no : ∀ x ∈ g :: fns, PySem.W.findIn K (.ref Ca) x = some none) (hsh : (g :: fns).length ≤ 10) (vV : PySem.W.findCls K (.type "ValueError") (.type "type") "__init__" = some (.val (.builtin "ValueError.__init__"))) (gV : scope.names.lookup ("ValueError" : Str) = some .globalImplicit) (mV : mg "ValueError" = none)
    (hl : ∀ x ∈ (("self" : Str) :: g :: fns), scope.names.lookup x = some .local) (hm : mInit (g :: fns) body = true) : FnOk P w K mg base (L2.CX P w) 1 f fd (("self" : Str) :: g :: fns) (spX Ca (g :: fns)) := by
  refine F1.ok sc (fun vs H Q E h => ?_) (fun cdv A outer s H vs Q E hr h => ?_)
  · obtain ⟨a, ys, rfl, hy, _⟩ := h
    simp [hy]
  · obtain ⟨m, ps⟩ := init_ps (X := cxOf (L2.CX P w) P w K mg base (("self" : Str) :: g :: fns) qual scope f cdv A outer s H E) rfl sc.nd vV gV mV hl hm
    exact ⟨_, ps, init_rd ox no hsh h⟩
theorem init_okH {qual : Str} {params : Arguments} {body : List Stmt} {scope : Scope} {f Ca : Addr} {fd : FuncData} {g : Str} {fns : List Str} (F1 : FunD K ("__init__" : Str) qual params body scope [] [] f fd) (sc : FnScope (("self" : Str) :: g :: fns) (("self" : Str) :: g :: fns) scope)
    (ox : OexC K Ca) (no : ∀ x ∈ g :: fns, PySem.W.findIn K (.ref Ca) x = some none) (hsh : (g :: fns).length ≤ 10) (vV : PySem.W.findCls K (.type "ValueError") (.type "type") "__init__" = some (.val (.builtin "ValueError.__init__"))) (gV : scope.names.lookup ("ValueError" : Str) = some .globalImplicit) (mV : mg "ValueError" = none)
    (hl : ∀ x ∈ (("self" : Str) :: g :: fns), scope.names.lookup x = some .local) (hm : mInit (g :: fns) body = true) : L2H.FnH P w K mg base (L2.CX P w) 1 f fd (("self" : Str) :: g :: fns) (spX Ca (g :: fns)) := by
  obtain ⟨oc, od, dV, kV, doc, pm, an, cdv, ct, osl, rfl, lk, hcd, _, _⟩ := F1.ex
  refine L2H.fn_ofH lk hcd sc (fun vs H Q E h => ?_) fun A outer s H vs Q E p hot hr h => ?_
  · obtain ⟨a, ys, rfl, hy, _⟩ := h
    simp [hy]
  · obtain ⟨m, ps⟩ := init_ps (X := L2H.cxH (L2.CX P w) P w K mg base (("self" : Str) :: g :: fns) qual scope f cdv A outer s H E p) rfl sc.nd vV gV mV hl hm
    exact ⟨_, ps, init_rd ox no hsh h⟩
/-- .. without a field -/
theorem init_bare {qual : Str} {params : Arguments} {body : List Stmt} {scope : Scope} {f Ca : Addr} {fd : FuncData} (F1 : FunD K ("__init__" : Str) qual params body scope [] [] f fd) (sc : FnScope [("self" : Str)] [("self" : Str)] scope)
    (ox : OexC K Ca) (vV : PySem.W.findCls K (.type "ValueError") (.type "type") "__init__" = some (.val (.builtin "ValueError.__init__"))) (gV : scope.names.lookup ("ValueError" : Str) = some .globalImplicit) (mV : mg "ValueError" = none)
    (hl : scope.names.lookup ("self" : Str) = some .local) (hm : mInit [] body = true) : FnOk P w K mg base (L2.CX P w) 1 f fd [("self" : Str)] (spB Ca) := by
  refine F1.ok sc (fun vs H Q E h => ?_) (fun cdv A outer s H vs Q E hr h => ?_)
  · obtain ⟨a, rfl, _⟩ := h
    rfl
  · unfold mInit at hm
    split at hm
    · rename_i v p1 i p2 sn p3 m j p4 p5 p6 t
      obtain ⟨hm, h4⟩ := dec_and hm
      obtain ⟨hm, h5⟩ := dec_and hm
      obtain ⟨hm, h3⟩ := dec_and hm
      obtain ⟨h1, h2⟩ := dec_and hm
      cases of_decide_eq_true h1
      cases of_decide_eq_true h2
      cases of_decide_eq_true h3
      have pself : PE (cxOf (L2.CX P w) P w K mg base [("self" : Str)] qual scope f cdv A outer s H E) (.Name "self" p3) (tVar 0) := pe_var rfl (.inl hl) (by decide +kernel) (by decide +kernel)
      refine ⟨tSeq (tDrop (tVeI K (tCons (tVar 0) (tCons (tC (.str m)) tNil)))) (tOsts K 1 []), pss_cons (ps_expr (pe_veinit gV mV vV (pa_cons pself (pa_cons pe_str pa_nil)) (meth_eval rfl h5 rfl)) rfl)
        (mIn_ps (N := [("self" : Str)]) rfl sc.nd rfl hl (fun i x e => by simp at e) h4), ?_⟩
      obtain ⟨a, rfl, ha, q⟩ := h
      exact ⟨_, rfl, a, Ca, [V.str m], rfl, (by simp), ox, ha, q⟩
    · cases hm
end
end Cn

/-! # what the top has written, by Booleans -/
namespace Cn
open PySem PySem.Spec PyProof.Rows L2
mutual
/-- a module's value is that data -/
def rkB (K : PySem.W.Frag) : D → Value → Bool
  | .non, u => (match u with | .none => true | _ => false)
  | .bl b, u => (match u with | .bool c => b == c | _ => false)
  | .int i, u => (match u with | .int j _ => decide (i = j) | _ => false)
  | .str cs, u => (match u with | .str x _ => decide (strV cs = x) | _ => false)
  | .tup xs, u => (match u with
    | .ref a => (match K.lookup a with
      | some ⟨.type c, _, .seq its _, _⟩ => decide (c = "tuple") && decide (its.size ≤ sizeLine) && rkBs K xs its.toList
      | _ => false)
    | _ => false)
  | _, _ => false
def rkBs (K : PySem.W.Frag) : List D → List Value → Bool
  | [], us => us.isEmpty
  | x :: r, us => (match us with | u :: s => rkB K x u && rkBs K r s | [] => false)
end
mutual
theorem rkB_ok {K : PySem.W.Frag} : ∀ {x : D} {u : Value}, rkB K x u = true → ∃ v, RelV v u ∧ RK K v x
  | .non, u, h => by
    cases u <;> unfold rkB at h <;> first | (cases h; done) | skip
    exact ⟨.non, rfl, .non⟩
  | .bl b, u, h => by
    cases u <;> unfold rkB at h <;> first | (cases h; done) | skip
    cases eq_of_beq h
    exact ⟨.bl b, rfl, .bl b⟩
  | .int i, u, h => by
    cases u <;> unfold rkB at h <;> first | (cases h; done) | skip
    cases of_decide_eq_true h
    exact ⟨.int i, ⟨_, rfl⟩, .int i⟩
  | .str cs, u, h => by
    cases u <;> unfold rkB at h <;> first | (cases h; done) | skip
    have e := of_decide_eq_true h
    subst e
    exact ⟨.str (strV cs), ⟨_, rfl⟩, .str cs⟩
  | .tup xs, u, h => by
    cases u <;> unfold rkB at h <;> first | (cases h; done) | skip
    rename_i a
    dsimp only at h
    split at h
    · rename_i c dd its n sl q
      obtain ⟨h, h3⟩ := dec_and h
      obtain ⟨h1, h2⟩ := dec_and h
      obtain ⟨vs, r1, r2⟩ := rkBs_ok h3
      exact ⟨.ref a, rfl, .tup (fun H => .inr ⟨_, its, n, q, by rw [of_decide_eq_true h1], rfl, of_decide_eq_true h2, r1⟩) r2⟩
    · cases h
  | .lst _, u, h => by unfold rkB at h; cases h
  | .ins _ _, u, h => by unfold rkB at h; cases h
  | .dK _ _, u, h => by unfold rkB at h; cases h
  | .dT _ _, u, h => by unfold rkB at h; cases h
theorem rkBs_ok {K : PySem.W.Frag} : ∀ {xs : List D} {us : List Value}, rkBs K xs us = true → ∃ vs, Vals vs us ∧ RKs K vs xs
  | [], us, h => by
    unfold rkBs at h
    cases us with
    | nil => exact ⟨[], .nil, .nil⟩
    | cons _ _ => cases h
  | x :: r, us, h => by
    unfold rkBs at h
    cases us with
    | nil => cases h
    | cons u s =>
      obtain ⟨h1, h2⟩ := dec_and h
      obtain ⟨v, a1, a2⟩ := rkB_ok h1
      obtain ⟨vs, b1, b2⟩ := rkBs_ok h2
      exact ⟨v :: vs, .cons a1 b1, .cons a2 b2⟩
end
def tupF (K : PySem.W.Frag) (x : Str) (t : D) : Bool := match PySem.W.nsIn K mainGlobals x with
  | some (some u) => rkB K t u
  | _ => false
theorem tupF_ok {K : PySem.W.Frag} {h : Heap} {mg : Str → Option Value} (X : K.In h) (G : h.Ns mainGlobals mg) {x : Str} {t : D} (c : tupF K x t = true) : ∃ v u, mg x = some u ∧ RelV v u ∧ RK K v t := by
  unfold tupF at c
  split at c
  · rename_i u e
    obtain ⟨v, h1, h2⟩ := rkB_ok c
    exact ⟨v, u, PySem.W.mg_of X G e, h1, h2⟩
  · cases c
/-- an own exception class -/
def oexB (K : PySem.W.Frag) (C : Addr) : Bool := match K.lookup C with
  | some ⟨.type t, _, .cls cd, sl⟩ => (match cd.mro, sl.toList with
    | .ref C' :: bm, [_, _, _, _, some (.builtin n), _] => decide (t = "type") && decide (C' = C) && decide (n = "ValueError.__new__") && !cd.hasDel && cd.hasDict && PySem.HandSPX.refsVE bm && decide (PySem.W.findIn K (.ref C) "__setattr__" = some (some (.builtin "object.__setattr__"))) &&
        decide (PySem.W.subIn K (.ref C) (.type "BaseException") = some true) && decide (PySem.W.typeIn K (.ref C) = some (.type "type")) && PySem.W.keepIn K (.ref C)
    | _, _ => false)
  | _ => false
theorem oexB_ok {K : PySem.W.Frag} {C : Addr} (h : oexB K C = true) : OexC K C := by
  unfold oexB at h
  split at h
  · rename_i t dd cd sl ho
    split at h
    · rename_i C' bm k0 k1 k2 k3 n k5 hm hs
      obtain ⟨h, g10⟩ := dec_and h
      obtain ⟨h, g9⟩ := dec_and h
      obtain ⟨h, g8⟩ := dec_and h
      obtain ⟨h, g7⟩ := dec_and h
      obtain ⟨h, g6⟩ := dec_and h
      obtain ⟨h, g5⟩ := dec_and h
      obtain ⟨h, g4⟩ := dec_and h
      obtain ⟨h, g3⟩ := dec_and h
      obtain ⟨g1, g2⟩ := dec_and h
      have e1 := of_decide_eq_true g1
      have e2 := of_decide_eq_true g2
      have e3 := of_decide_eq_true g3
      subst e1 e2 e3
      obtain ⟨nm, bs, mro, ns, qn, hd, sn, sub, ab, col, del⟩ := cd
      dsimp only at hm g4 g5
      subst hm g5
      have g4' : del = false := by simpa using g4
      subst g4'
      have hsl : sl = #[k0, k1, k2, k3, some (.builtin "ValueError.__new__"), k5] := by
        obtain ⟨l⟩ := sl
        simp only at hs
        rw [hs]
      subst hsl
      exact ⟨⟨nm, qn, ns, bs, bm, sn, sub, ab, col, dd, k0, k1, k2, k3, k5, ho, g6⟩, of_decide_eq_true g7, of_decide_eq_true g8, of_decide_eq_true g9, g10⟩
    · cases h
  · cases h
/-- all that is asked of an exception class of the text -/
def xcB (K : PySem.W.Frag) (x : Str) (fns : List Str) : Bool := oexB K (He.ga K x) && xfB K (He.ga K x) && fns.all (fun f => decide (PySem.W.findIn K (.ref (He.ga K x)) f = some none)) &&
  decide (PySem.W.findIn K (.ref (He.ga K x)) "__init__" = some (some (.ref (He.ma K (He.ga K x) "__init__")))) && decide (PySem.W.typeIn K (.ref (He.ma K (He.ga K x) "__init__")) = some (.type "function"))
theorem xcB_ok {K : PySem.W.Frag} {x : Str} {fns : List Str} (h : xcB K x fns = true) : OexC K (He.ga K x) ∧ XfC K (He.ga K x) ∧ (∀ f ∈ fns, PySem.W.findIn K (.ref (He.ga K x)) f = some none) ∧
    PySem.W.findIn K (.ref (He.ga K x)) "__init__" = some (some (.ref (He.ma K (He.ga K x) "__init__"))) ∧ PySem.W.typeIn K (.ref (He.ma K (He.ga K x) "__init__")) = some (.type "function") := by
  obtain ⟨h, h5⟩ := dec_and h
  obtain ⟨h, h4⟩ := dec_and h
  obtain ⟨h, h3⟩ := dec_and h
  obtain ⟨h1, h2⟩ := dec_and h
  exact ⟨oexB_ok h1, xfB_ok h2, fun f hf => of_decide_eq_true (List.all_eq_true.mp h3 f hf), of_decide_eq_true h4, of_decide_eq_true h5⟩
def vvB (K : PySem.W.Frag) : Bool := match PySem.W.findCls K (.type "ValueError") (.type "type") "__init__" with
  | some (.val (.builtin i)) => decide (i = "ValueError.__init__")
  | _ => false
theorem vvB_ok {K : PySem.W.Frag} (h : vvB K = true) : PySem.W.findCls K (.type "ValueError") (.type "type") "__init__" = some (.val (.builtin "ValueError.__init__")) := by
  unfold vvB at h
  split at h
  · rename_i i e
    rw [e, of_decide_eq_true h]
  · cases h
/-- a dict of numbers that the top wrote -/
def dicF (K : PySem.W.Frag) (x : Str) (ps : List (Int × Int)) : Bool := match PySem.W.nsIn K mainGlobals x with
  | some (some (.ref a)) => diB K a ps
  | _ => false
theorem dicF_ok {K : PySem.W.Frag} {h : Heap} {mg : Str → Option Value} (X : K.In h) (G : h.Ns mainGlobals mg) {x : Str} {ps : List (Int × Int)} (c : dicF K x ps = true) : ∃ a, mg x = some (.ref a) ∧ diB K a ps = true := by
  unfold dicF at c
  split at c
  · rename_i a e
    exact ⟨a, PySem.W.mg_of X G e, c⟩
  · cases c
/-- the written part holds no list -/
def noL (K : PySem.W.Frag) : Bool := K.all fun p => match p.2.cls with
  | .type t => !(t == ("list" : Str))
  | _ => true
theorem lookup_memK {a : Addr} {o : Obj} : ∀ {K : PySem.W.Frag}, K.lookup a = some o → (a, o) ∈ K
  | [], e => nomatch e
  | (b, x) :: r, e => by
    have e2 : (match a == b with | true => some x | false => List.lookup a r) = some o := e
    cases q : a == b with
    | true =>
      rw [q] at e2
      cases e2
      rw [beq_iff_eq.mp q]
      exact List.mem_cons_self
    | false =>
      rw [q] at e2
      exact List.mem_cons_of_mem _ (lookup_memK e2)
theorem noL_ok {K : PySem.W.Frag} (h : noL K = true) {a : Addr} {o : Obj} (e : K.lookup a = some o) (c : o.cls = .type "list") : False := by
  have hm : (a, o) ∈ K := lookup_memK e
  have q := List.all_eq_true.mp h (a, o) hm
  rw [c] at q
  exact absurd q (by decide)
end Cn

/-! # the end of a law: from a def's promise to the row -/
namespace Cn
open PySem PySem.Spec PyProof.Rows L2
open PySem.W (OpenSpec Codec WData)
theorem no_exc {P : Program} {w : World} {H : Hp} {s s' : Shared} {e : Value} (c : L2.CX P w [] H s (fun _ _ _ => False) e s') : False := by
  obtain ⟨_, _, _, _, _, _, _, _, _, _, _, _, z⟩ := c
  exact z
/-- the written part is what the Hook finds -/
theorem walkE {row : OpenSpec} {depth : Nat} {text : Program} {lax : List Str} {XQ : (Str → Option Value) → Heap → Prop} {YQ : World → Heap → Prop} {df : DefRec} {pars : List Str}
    (ws : row.wellSaid = true) (many : row.args.length = pars.length) (room : Room depth callerA)
    (tell : ∀ (w : World) (mg : Str → Option Value) (fa : Addr) (h : Heap), YQ w h → h.Ns mainGlobals mg → mg df.name = some (.ref fa) → ∃ (K : PySem.W.Frag) (fd : FuncData) (sp : Sp), K.In h ∧
      (∀ (s : Shared) (us : List Value), us.length = pars.length → BindsTo s fd ⟨us, []⟩ (pars.zip us)) ∧
      (∀ base : Heap, K.In base → base.Ns mainGlobals mg → FnOk row.prog w K mg base (L2.CX row.prog w) depth fa fd pars sp) ∧
      ∀ (H : Hp) (xs : List V) (a : Codec.denoteAll row.args), OnlyF H → Codec.withinAll row.args a = true → Codec.app row.args row.asked a = true → DwAll K H xs (Codec.encAll row.args a) →
        sp xs H (fun v H' => Dw K H' v (row.ret.enc (Codec.app row.args row.f a))) fun _ _ _ => False) :
    PySem.W.WalkOS text lax XQ YQ row df [] (fun f vs => PySem.call f vs) := by
  intro w s0 s1 mg mb gr yy fa ob pm cd doc dV kV _ _ _ _ hmg hgen given vals reads hpre hlay _ hwell _
  obtain ⟨arg, darg, qarg⟩ := PySem.W.os_pre_some hpre
  obtain ⟨rfl, hin⟩ := Codec.encAll_of_decAll row.args given arg darg
  obtain ⟨K, fd, sp, inK, hbind, hfn, hsp⟩ := tell w mg fa _ yy gr.T.g hmg
  refine PySem.W.enter_call ?_
  have ran := spec_call (R := []) (cl := classAt s0.heap) (d0 := row.ret.enc (Codec.app row.args row.f arg)) inK gr.T.g gr.T.b gr.T.builtins gr.T.nolimit hgen hwell (pl_encAll _ _) (layable_weight hlay) room hfn hbind
    (by rw [encAll_len]; exact many) (fun H xs only dw => hsp H xs arg only hin qarg dw) fun H e s' c => no_exc c
  refine codeAny_mono ran fun res st hq => ?_
  obtain ⟨val, read, rfl, g1, g2, g3, g4⟩ := hq
  exact ⟨.inl ⟨val, _, read, rfl, fun _ => rfl, g1, (OpenSpec.post_iff ws hin _ _).mpr rfl, fun no => Bool.noConfusion (show false = true from no)⟩, g2, g3, g4⟩
theorem rds_ints {T : Tx} {F : Hp} : ∀ {l : List Int} {vs : List V}, RDs T F vs (l.map .int) → vs = l.map V.int
  | [], _, h => by cases h; rfl
  | i :: l, _, h => by
    cases h with
    | cons h t =>
      cases h
      rw [rds_ints t]; rfl
/-- a list of numbers, as the row reads it -/
theorem dw_of {T : Tx} {F H : Hp} {v : V} {l : List Int} (r : RD T F v (.lst (l.map .int))) (le : Le F H) : Dw T.K H v (.list (l.map WData.int)) := by
  obtain ⟨a, vs, rfl, ha, hv⟩ := RD.seqL r
  have e := rds_ints hv
  subst e
  exact .lst (.inl (le.rd ha)) (dw_ints _)
/-- the entry: nothing is an object of ours -/
theorem rel0 {K : PySem.W.Frag} {c : Nat → Addr} {f : Nat → List Str} (H : Hp) : Rel ⟨K, c, f, fun _ => none⟩ H [] H [] :=
  ⟨Le.rfl', rfl, ⟨fun _ => (0, none), fun n p g e _ => by simp at e⟩, (fun a o e => nomatch e), fun a o e => nomatch e⟩
theorem dw_ints_rd {T : Tx} {H : Hp} : ∀ {l : List Int} {vs : List V}, DwAll T.K H vs (l.map WData.int) → RDs T H vs (l.map .int)
  | [], _, h => by cases h; exact .nil
  | i :: l, _, h => by
    cases h with
    | cons h t =>
      cases h
      exact .cons (.int i) (dw_ints_rd t)
/-- a list of numbers that is handed in -/
theorem rd_of {T : Tx} {H : Hp} (hn : noL T.K = true) {v : V} {l : List Int} (h : Dw T.K H v (.list (l.map WData.int))) : RD T H v (.lst (l.map .int)) := by
  cases h with
  | lst s q =>
    rcases s with s | ⟨o, its, n, e, c, _⟩
    · exact .lst s (dw_ints_rd q)
    · exact (noL_ok hn e c).elim
end Cn

namespace Cn
namespace UT
def t_BLANKS : D := .tup [(.int (32)), (.int (9)), (.int (10)), (.int (13))]
def t_LABEL_SIGNS : D := .tup [(.int (45)), (.int (95)), (.int (46)), (.int (58))]
def t_COUNTED : D := .tup [(.str [102, 105, 103, 117, 114, 101]), (.str [116, 97, 98, 108, 101]), (.str [102, 111, 114, 109, 117, 108, 97]), (.str [110, 111, 116, 101])]
def t_DEFAULTS : D := .tup [(.tup [(.str [102, 105, 103, 117, 114, 101]), (.str [70, 105, 103, 117, 114, 101, 32]), (.str [])]), (.tup [(.str [116, 97, 98, 108, 101]), (.str [84, 97, 98, 108, 101, 32]), (.str [])]), (.tup [(.str [102, 111, 114, 109, 117, 108, 97]), (.str [40]), (.str [41])]), (.tup [(.str [110, 111, 116, 101]), (.str []), (.str [])])]
def d_SHAPES : List (Int × Int) := [(65, 1), (97, 2), (82, 3), (114, 4)]
def d_ESCAPES : List (Int × Int) := [(34, 34), (92, 92), (110, 10), (116, 9)]
def d_ARGUMENTS : List (List Nat × Int) := [([104, 101, 97, 100, 105, 110, 103], 2), ([115, 116, 97, 114, 116], 2), ([102, 105, 103, 117, 114, 101], 2), ([116, 97, 98, 108, 101], 2), ([102, 111, 114, 109, 117, 108, 97], 2), ([110, 111, 116, 101], 2), ([115, 107, 105, 112], 1)]
abbrev i_check_place : Nat := 0
abbrev i_codes : Nat := 1
abbrev i_is_point : Nat := 2
abbrev i_length_by : Nat := 3
abbrev i_sequence_at : Nat := 4
abbrev i_is_label_sign : Nat := 5
abbrev i_is_label : Nat := 6
abbrev i_number_piece : Nat := 7
abbrev i_pieces_of : Nat := 8
abbrev i_is_figure : Nat := 9
abbrev i_is_small : Nat := 10
abbrev i_hex_worth : Nat := 11
abbrev i_read_value : Nat := 12
abbrev i_read_expressions : Nat := 13
abbrev i_plain_pieces : Nat := 14
abbrev i_default_counted : Nat := 15
abbrev i_default_heading : Nat := 16
abbrev i_whole_at : Nat := 17
abbrev i_text_at : Nat := 18
abbrev i_pattern_at : Nat := 19
abbrev i_read_settings : Nat := 20
abbrev i_check : Nat := 21
abbrev i_Source___init__ : Nat := 22
abbrev i_Source_is_over : Nat := 23
abbrev i_Source_pass_remark : Nat := 24
abbrev i_Source_integer : Nat := 25
abbrev i_Source_symbol : Nat := 26
abbrev i_Source_string : Nat := 27
abbrev i_Source_character : Nat := 28
abbrev i_Source_escape : Nat := 29
abbrev i_Source_stands : Nat := 30
abbrev i_Source_hexadecimal : Nat := 31
abbrev i_Settings___init__ : Nat := 32
abbrev i_Settings_take : Nat := 33
abbrev i_Settings_take_skip : Nat := 34
abbrev i_Settings_take_level : Nat := 35
def b_check_place : Ss := .cons (.if_ (.not (.var 0)) (.cons (.rais 0 0 (.cons (.var 1) (.cons (.var 2) (.nil)))) (.nil)) (.nil)) (.nil)
def f_check_place : Df := ⟨3, 3, b_check_place⟩
def b_codes : Ss := .cons (.ret (.b1 .tuple (.lc (.n 1) (.var 0) (.bl true) (.b1 .ord (.var 1))))) (.nil)
def f_codes : Df := ⟨1, 2, b_codes⟩
def b_is_point : Ss := .cons (.ret (.and2 (.ch .le .le (.int (0)) (.var 0) (.int (1114111))) (.not (.ch .le .le (.int (55296)) (.var 0) (.int (57343)))))) (.nil)
def f_is_point : Df := ⟨1, 1, b_is_point⟩
def b_length_by : Ss := .cons (.if_ (.ch .le .le (.int (194)) (.var 0) (.int (223))) (.cons (.ret (.int (2))) (.nil)) (.nil)) (.cons (.if_ (.ch .le .le (.int (224)) (.var 0) (.int (239))) (.cons (.ret (.int (3))) (.nil)) (.nil)) (.cons (.if_ (.ch .le .le (.int (240)) (.var 0) (.int (244))) (.cons (.ret (.int (4))) (.nil)) (.nil)) (.cons (.ret (.int (0))) (.nil))))
def f_length_by : Df := ⟨1, 1, b_length_by⟩
def b_sequence_at : Ss := .cons (.if_ (.cmp .lt (.ix (.var 0) (.var 1)) (.int (128))) (.cons (.ret (.tup (.cons (.ix (.var 0) (.var 1)) (.cons (.int (1)) (.nil))))) (.nil)) (.nil)) (.cons (.asg 2 (.call i_length_by (.cons (.ix (.var 0) (.var 1)) (.nil)))) (.cons (.if_ (.or2 (.cmp .eq (.var 2) (.int (0))) (.cmp .gt (.bin .add (.var 1) (.var 2)) (.b1 .len (.var 0)))) (.cons (.ret (.tup (.cons (.int (0)) (.cons (.int (0)) (.nil))))) (.nil)) (.nil)) (.cons (.asg 3 (.bin .sub (.ix (.var 0) (.var 1)) (.ix (.tup (.cons (.int (192)) (.cons (.int (224)) (.cons (.int (240)) (.nil))))) (.bin .sub (.var 2) (.int (2)))))) (.cons (.for_ (.n 4) (.seq (.sl (.var 0) (.bin .add (.var 1) (.int (1))) (.bin .add (.var 1) (.var 2)))) (.cons (.if_ (.not (.ch .le .le (.int (128)) (.var 4) (.int (191)))) (.cons (.ret (.tup (.cons (.int (0)) (.cons (.int (0)) (.nil))))) (.nil)) (.nil)) (.cons (.asg 3 (.bin .sub (.bin .add (.bin .mul (.int (64)) (.var 3)) (.var 4)) (.int (128)))) (.nil)))) (.cons (.if_ (.or2 (.cmp .lt (.var 3) (.ix (.tup (.cons (.int (128)) (.cons (.int (2048)) (.cons (.int (65536)) (.nil))))) (.bin .sub (.var 2) (.int (2))))) (.not (.call i_is_point (.cons (.var 3) (.nil))))) (.cons (.ret (.tup (.cons (.int (0)) (.cons (.int (0)) (.nil))))) (.nil)) (.nil)) (.cons (.ret (.tup (.cons (.var 3) (.cons (.var 2) (.nil))))) (.nil)))))))
def f_sequence_at : Df := ⟨2, 5, b_sequence_at⟩
def b_is_label_sign : Ss := .cons (.ret (.or2 (.ch .le .le (.int (48)) (.var 0) (.int (57))) (.or2 (.ch .le .le (.int (65)) (.var 0) (.int (90))) (.or2 (.ch .le .le (.int (97)) (.var 0) (.int (122))) (.cmp .in_ (.var 0) (.gt "LABEL_SIGNS" (t_LABEL_SIGNS))))))) (.nil)
def f_is_label_sign : Df := ⟨1, 1, b_is_label_sign⟩
def b_is_label : Ss := .cons (.ret (.and2 (.ch .le .le (.int (1)) (.b1 .len (.var 0)) (.gi "MOST_LABEL" (40))) (.b1 .all (.lc (.n 1) (.var 0) (.bl true) (.call i_is_label_sign (.cons (.var 1) (.nil))))))) (.nil)
def f_is_label : Df := ⟨1, 2, b_is_label⟩
def b_number_piece : Ss := .cons (.if_ (.cmp .eq (.sl (.var 0) (.var 1) (.bin .add (.var 1) (.int (1)))) (.tup (.cons (.gi "PERCENT" (37)) (.nil)))) (.cons (.ret (.tup (.cons (.tup (.cons (.gi "LITERAL" (-1)) (.cons (.gi "PERCENT" (37)) (.nil)))) (.cons (.bin .add (.var 1) (.int (1))) (.nil))))) (.nil)) (.nil)) (.cons (.asg 2 (.gi "ARABIC" (0))) (.cons (.if_ (.and2 (.cmp .lt (.var 1) (.b1 .len (.var 0))) (.gin "SHAPES" (d_SHAPES) (.ix (.var 0) (.var 1)))) (.cons (.asg 2 (.gget "SHAPES" (d_SHAPES) (.ix (.var 0) (.var 1)))) (.cons (.asg 1 (.bin .add (.var 1) (.int (1)))) (.nil))) (.nil)) (.cons (.if_ (.and2 (.cmp .lt (.var 1) (.b1 .len (.var 0))) (.cmp .eq (.ix (.var 0) (.var 1)) (.gi "COUNTER" (99)))) (.cons (.ret (.tup (.cons (.tup (.cons (.var 2) (.cons (.int (0)) (.nil)))) (.cons (.bin .add (.var 1) (.int (1))) (.nil))))) (.nil)) (.nil)) (.cons (.if_ (.and2 (.cmp .lt (.var 1) (.b1 .len (.var 0))) (.ch .le .le (.int (49)) (.ix (.var 0) (.var 1)) (.bin .add (.int (48)) (.gi "MOST_LEVEL_texts" (6))))) (.cons (.ret (.tup (.cons (.tup (.cons (.var 2) (.cons (.bin .sub (.ix (.var 0) (.var 1)) (.int (48))) (.nil)))) (.cons (.bin .add (.var 1) (.int (1))) (.nil))))) (.nil)) (.nil)) (.cons (.rais 1 0 (.nil)) (.nil))))))
def f_number_piece : Df := ⟨2, 3, b_number_piece⟩
def b_pieces_of : Ss := .cons (.asg 1 (.lstM (.nil))) (.cons (.asg 2 (.int (0))) (.cons (.wh (.cmp .lt (.var 2) (.b1 .len (.var 0))) (.cons (.if_ (.cmp .eq (.ix (.var 0) (.var 2)) (.gi "PERCENT" (37))) (.cons (.asgT [3, 2] (.call i_number_piece (.cons (.var 0) (.cons (.bin .add (.var 2) (.int (1))) (.nil))))) (.cons (.ex (.app (.var 1) (.var 3))) (.nil))) (.cons (.ex (.app (.var 1) (.tup (.cons (.gi "LITERAL" (-1)) (.cons (.ix (.var 0) (.var 2)) (.nil)))))) (.cons (.asg 2 (.bin .add (.var 2) (.int (1)))) (.nil)))) (.nil))) (.cons (.ret (.fz (.var 1))) (.nil))))
def f_pieces_of : Df := ⟨1, 4, b_pieces_of⟩
def b_is_figure : Ss := .cons (.ret (.ch .le .le (.int (48)) (.var 0) (.int (57)))) (.nil)
def f_is_figure : Df := ⟨1, 1, b_is_figure⟩
def b_is_small : Ss := .cons (.ret (.ch .le .le (.int (97)) (.var 0) (.int (122)))) (.nil)
def f_is_small : Df := ⟨1, 1, b_is_small⟩
def b_hex_worth : Ss := .cons (.if_ (.call i_is_figure (.cons (.var 0) (.nil))) (.cons (.ret (.bin .sub (.var 0) (.int (48)))) (.nil)) (.nil)) (.cons (.if_ (.ch .le .le (.int (97)) (.var 0) (.int (102))) (.cons (.ret (.bin .sub (.var 0) (.int (87)))) (.nil)) (.nil)) (.cons (.ret (.int (-1))) (.nil)))
def f_hex_worth : Df := ⟨1, 1, b_hex_worth⟩
def b_read_value : Ss := .cons (.asg 1 (.ix (.at 0 0 (.var 0)) (.at 0 1 (.var 0)))) (.cons (.if_ (.cmp .eq (.var 1) (.gi "QUOTE" (34))) (.cons (.ret (.meth 0 i_Source_string (.var 0) (.nil))) (.nil)) (.nil)) (.cons (.if_ (.call i_is_figure (.cons (.var 1) (.nil))) (.cons (.ret (.meth 0 i_Source_integer (.var 0) (.nil))) (.nil)) (.nil)) (.cons (.ex (.call i_check_place (.cons (.call i_is_small (.cons (.var 1) (.nil))) (.cons (.gi "UNEXPECTED" (2)) (.cons (.at 0 1 (.var 0)) (.nil)))))) (.cons (.ret (.meth 0 i_Source_symbol (.var 0) (.nil))) (.nil)))))
def f_read_value : Df := ⟨1, 2, b_read_value⟩
def b_read_expressions : Ss := .cons (.asg 1 (.new 0 i_Source___init__ (.cons (.var 0) (.nil)))) (.cons (.asg 2 (.lstU (.cons (.lstM (.nil)) .nil))) (.cons (.asg 3 (.lstM (.cons (.int (0)) (.nil)))) (.cons (.wh (.not (.meth 0 i_Source_is_over (.var 1) (.nil))) (.cons (.asg 4 (.ix (.var 0) (.at 0 1 (.var 1)))) (.cons (.asg 5 (.at 0 1 (.var 1))) (.cons (.if_ (.cmp .in_ (.var 4) (.gt "BLANKS" (t_BLANKS))) (.cons (.auga 0 1 .add (.var 1) (.int (1))) (.nil)) (.cons (.if_ (.cmp .eq (.var 4) (.gi "REMARK" (59))) (.cons (.ex (.meth 0 i_Source_pass_remark (.var 1) (.nil))) (.nil)) (.cons (.if_ (.cmp .eq (.var 4) (.gi "LEFT" (40))) (.cons (.ex (.call i_check_place (.cons (.cmp .le (.b1 .lenU (.var 2)) (.gi "MOST_DEEP" (16))) (.cons (.gi "TOO_DEEP" (6)) (.cons (.var 5) (.nil)))))) (.cons (.ex (.app (.var 2) (.lstM .nil))) (.cons (.ex (.app (.var 3) (.var 5))) (.cons (.auga 0 1 .add (.var 1) (.int (1))) (.nil))))) (.cons (.if_ (.cmp .eq (.var 4) (.gi "RIGHT" (41))) (.cons (.ex (.call i_check_place (.cons (.cmp .gt (.b1 .lenU (.var 2)) (.int (1))) (.cons (.gi "UNEXPECTED" (2)) (.cons (.var 5) (.nil)))))) (.cons (.asg 6 (.pop (.var 2))) (.cons (.ex (.app (.ix (.var 2) (.int (-1))) (.tup (.cons (.fz (.var 6)) (.cons (.pop (.var 3)) (.nil)))))) (.cons (.auga 0 1 .add (.var 1) (.int (1))) (.nil))))) (.cons (.ex (.app (.ix (.var 2) (.int (-1))) (.tup (.cons (.call i_read_value (.cons (.var 1) (.nil))) (.cons (.var 5) (.nil)))))) (.nil))) (.nil))) (.nil))) (.nil))) (.nil))))) (.cons (.ex (.call i_check_place (.cons (.cmp .eq (.b1 .lenU (.var 2)) (.int (1))) (.cons (.gi "TOO_EARLY" (1)) (.cons (.b1 .len (.var 0)) (.nil)))))) (.cons (.ret (.fz (.ix (.var 2) (.int (0))))) (.nil))))))
def f_read_expressions : Df := ⟨1, 7, b_read_expressions⟩
def b_plain_pieces : Ss := .cons (.ret (.lc (.n 1) (.call i_codes (.cons (.var 0) (.nil))) (.bl true) (.tup (.cons (.gi "LITERAL" (-1)) (.cons (.var 1) (.nil)))))) (.nil)
def f_plain_pieces : Df := ⟨1, 2, b_plain_pieces⟩
def b_default_counted : Ss := .cons (.ret (.bin .add (.bin .add (.call i_plain_pieces (.cons (.var 0) (.nil))) (.lst (.cons (.tup (.cons (.gi "ARABIC" (0)) (.cons (.int (0)) (.nil)))) (.nil)))) (.call i_plain_pieces (.cons (.var 1) (.nil))))) (.nil)
def f_default_counted : Df := ⟨2, 2, b_default_counted⟩
def b_default_heading : Ss := .cons (.asg 1 (.lstM (.cons (.tup (.cons (.gi "ARABIC" (0)) (.cons (.int (1)) (.nil)))) (.nil)))) (.cons (.for_ (.n 2) (.rng (.int (2)) (.bin .add (.var 0) (.int (1)))) (.cons (.ex (.ext (.var 1) (.lst (.cons (.tup (.cons (.gi "LITERAL" (-1)) (.cons (.gi "POINT" (46)) (.nil)))) (.cons (.tup (.cons (.gi "ARABIC" (0)) (.cons (.var 2) (.nil)))) (.nil)))))) (.nil))) (.cons (.ret (.fz (.var 1))) (.nil)))
def f_default_heading : Df := ⟨1, 3, b_default_heading⟩
def b_whole_at : Ss := .cons (.asgT [3, 4] (.var 0)) (.cons (.ex (.call i_check_place (.cons (.isi .int (.var 3)) (.cons (.gi "BAD_ARGUMENTS" (8)) (.cons (.var 4) (.nil)))))) (.cons (.ex (.call i_check_place (.cons (.ch .le .le (.var 1) (.var 3) (.var 2)) (.cons (.gi "OUT_OF_RANGE" (9)) (.cons (.var 4) (.nil)))))) (.cons (.ret (.var 3)) (.nil))))
def f_whole_at : Df := ⟨3, 5, b_whole_at⟩
def b_text_at : Ss := .cons (.asgT [1, 2] (.var 0)) (.cons (.ex (.call i_check_place (.cons (.isi .tuple (.var 1)) (.cons (.gi "BAD_ARGUMENTS" (8)) (.cons (.var 2) (.nil)))))) (.cons (.ret (.var 1)) (.nil)))
def f_text_at : Df := ⟨1, 3, b_text_at⟩
def b_pattern_at : Ss := .cons (.asg 1 (.call i_text_at (.cons (.var 0) (.nil)))) (.cons (.asg 2 (.non)) (.cons (.tryN (.cons (.asg 2 (.call i_pieces_of (.cons (.var 1) (.nil)))) (.nil)) 1 2) (.cons (.ex (.call i_check_place (.cons (.cmp .notN (.var 2) (.non)) (.cons (.gi "OUT_OF_RANGE" (9)) (.cons (.ix (.var 0) (.int (1))) (.nil)))))) (.cons (.ret (.var 2)) (.nil)))))
def f_pattern_at : Df := ⟨1, 3, b_pattern_at⟩
def b_read_settings : Ss := .cons (.asg 1 (.new 1 i_Settings___init__ (.nil))) (.cons (.for_ (.n 2) (.seq (.call i_read_expressions (.cons (.var 0) (.nil)))) (.cons (.ex (.meth 1 i_Settings_take (.var 1) (.cons (.var 2) (.nil)))) (.nil))) (.cons (.ret (.fz (.var 1))) (.nil)))
def f_read_settings : Df := ⟨1, 3, b_read_settings⟩
def b_check : Ss := .cons (.tryF (.cons (.ex (.call i_read_settings (.cons (.var 0) (.nil)))) (.nil)) 0 1 (List.range 2)) (.cons (.ret (.lst (.cons (.int (0)) (.cons (.int (0)) (.nil))))) (.nil))
def f_check : Df := ⟨1, 2, b_check⟩
def b_Source___init__ : Ss := .cons (.seta 0 0 (.var 0) (.var 1)) (.cons (.seta 0 1 (.var 0) (.int (0))) (.nil))
def f_Source___init__ : Df := ⟨2, 2, b_Source___init__⟩
def b_Source_is_over : Ss := .cons (.ret (.cmp .ge (.at 0 1 (.var 0)) (.b1 .len (.at 0 0 (.var 0))))) (.nil)
def f_Source_is_over : Df := ⟨1, 1, b_Source_is_over⟩
def b_Source_pass_remark : Ss := .cons (.wh (.and2 (.not (.meth 0 i_Source_is_over (.var 0) (.nil))) (.cmp .ne (.ix (.at 0 0 (.var 0)) (.at 0 1 (.var 0))) (.gi "LINE_END" (10)))) (.cons (.auga 0 1 .add (.var 0) (.int (1))) (.nil))) (.nil)
def f_Source_pass_remark : Df := ⟨1, 1, b_Source_pass_remark⟩
def b_Source_integer : Ss := .cons (.asg 1 (.at 0 1 (.var 0))) (.cons (.asg 2 (.int (0))) (.cons (.wh (.and2 (.not (.meth 0 i_Source_is_over (.var 0) (.nil))) (.call i_is_figure (.cons (.ix (.at 0 0 (.var 0)) (.at 0 1 (.var 0))) (.nil)))) (.cons (.asg 2 (.bin .sub (.bin .add (.bin .mul (.int (10)) (.var 2)) (.ix (.at 0 0 (.var 0)) (.at 0 1 (.var 0)))) (.int (48)))) (.cons (.auga 0 1 .add (.var 0) (.int (1))) (.nil)))) (.cons (.asg 3 (.bin .sub (.at 0 1 (.var 0)) (.var 1))) (.cons (.ex (.call i_check_place (.cons (.and2 (.cmp .le (.var 3) (.gi "MOST_DIGITS" (6))) (.or2 (.cmp .eq (.var 3) (.int (1))) (.cmp .ne (.ix (.at 0 0 (.var 0)) (.var 1)) (.int (48))))) (.cons (.gi "BAD_INTEGER" (5)) (.cons (.var 1) (.nil)))))) (.cons (.ret (.var 2)) (.nil))))))
def f_Source_integer : Df := ⟨1, 4, b_Source_integer⟩
def b_Source_symbol : Ss := .cons (.asg 1 (.str [])) (.cons (.wh (.not (.meth 0 i_Source_is_over (.var 0) (.nil))) (.cons (.asg 2 (.ix (.at 0 0 (.var 0)) (.at 0 1 (.var 0)))) (.cons (.if_ (.call i_is_small (.cons (.var 2) (.nil))) (.cons (.asg 1 (.bin .add (.var 1) (.ix (.gs "SMALL" [97, 98, 99, 100, 101, 102, 103, 104, 105, 106, 107, 108, 109, 110, 111, 112, 113, 114, 115, 116, 117, 118, 119, 120, 121, 122]) (.bin .sub (.var 2) (.int (97)))))) (.nil)) (.cons (.if_ (.call i_is_figure (.cons (.var 2) (.nil))) (.cons (.asg 1 (.bin .add (.var 1) (.ix (.gs "FIGURES" [48, 49, 50, 51, 52, 53, 54, 55, 56, 57, 97, 98, 99, 100, 101, 102]) (.bin .sub (.var 2) (.int (48)))))) (.nil)) (.cons (.if_ (.cmp .eq (.var 2) (.gi "HYPHEN" (45))) (.cons (.asg 1 (.bin .add (.var 1) (.str [45]))) (.nil)) (.cons (.ret (.var 1)) (.nil))) (.nil))) (.nil))) (.cons (.auga 0 1 .add (.var 0) (.int (1))) (.nil))))) (.cons (.ret (.var 1)) (.nil)))
def f_Source_symbol : Df := ⟨1, 3, b_Source_symbol⟩
def b_Source_string : Ss := .cons (.asg 1 (.lstM (.nil))) (.cons (.auga 0 1 .add (.var 0) (.int (1))) (.cons (.wh (.bl true) (.cons (.ex (.call i_check_place (.cons (.not (.meth 0 i_Source_is_over (.var 0) (.nil))) (.cons (.gi "TOO_EARLY" (1)) (.cons (.b1 .len (.at 0 0 (.var 0))) (.nil)))))) (.cons (.asg 2 (.ix (.at 0 0 (.var 0)) (.at 0 1 (.var 0)))) (.cons (.if_ (.cmp .eq (.var 2) (.gi "QUOTE" (34))) (.cons (.auga 0 1 .add (.var 0) (.int (1))) (.cons (.ret (.b1 .tuple (.var 1))) (.nil))) (.nil)) (.cons (.ex (.app (.var 1) (.ife (.cmp .eq (.var 2) (.gi "BACKSLASH" (92))) (.meth 0 i_Source_escape (.var 0) (.nil)) (.meth 0 i_Source_character (.var 0) (.nil))))) (.nil)))))) (.nil)))
def f_Source_string : Df := ⟨1, 3, b_Source_string⟩
def b_Source_character : Ss := .cons (.ex (.call i_check_place (.cons (.cmp .ge (.ix (.at 0 0 (.var 0)) (.at 0 1 (.var 0))) (.int (32))) (.cons (.gi "UNEXPECTED" (2)) (.cons (.at 0 1 (.var 0)) (.nil)))))) (.cons (.asgT [1, 2] (.call i_sequence_at (.cons (.at 0 0 (.var 0)) (.cons (.at 0 1 (.var 0)) (.nil))))) (.cons (.ex (.call i_check_place (.cons (.cmp .gt (.var 2) (.int (0))) (.cons (.gi "BAD_UTF" (4)) (.cons (.at 0 1 (.var 0)) (.nil)))))) (.cons (.auga 0 1 .add (.var 0) (.var 2)) (.cons (.ret (.var 1)) (.nil)))))
def f_Source_character : Df := ⟨1, 3, b_Source_character⟩
def b_Source_escape : Ss := .cons (.asg 1 (.at 0 1 (.var 0))) (.cons (.auga 0 1 .add (.var 0) (.int (1))) (.cons (.ex (.call i_check_place (.cons (.not (.meth 0 i_Source_is_over (.var 0) (.nil))) (.cons (.gi "TOO_EARLY" (1)) (.cons (.b1 .len (.at 0 0 (.var 0))) (.nil)))))) (.cons (.asg 2 (.ix (.at 0 0 (.var 0)) (.at 0 1 (.var 0)))) (.cons (.auga 0 1 .add (.var 0) (.int (1))) (.cons (.if_ (.gin "ESCAPES" (d_ESCAPES) (.var 2)) (.cons (.ret (.gget "ESCAPES" (d_ESCAPES) (.var 2))) (.nil)) (.nil)) (.cons (.ex (.call i_check_place (.cons (.and2 (.cmp .eq (.var 2) (.gi "LETTER_U" (117))) (.meth 0 i_Source_stands (.var 0) (.cons (.gi "LEFT_BRACE" (123)) (.nil)))) (.cons (.gi "BAD_ESCAPE" (3)) (.cons (.var 1) (.nil)))))) (.cons (.auga 0 1 .add (.var 0) (.int (1))) (.cons (.asgT [3, 4] (.meth 0 i_Source_hexadecimal (.var 0) (.nil))) (.cons (.ex (.call i_check_place (.cons (.and2 (.ch .le .le (.int (1)) (.var 4) (.gi "MOST_HEX" (6))) (.and2 (.meth 0 i_Source_stands (.var 0) (.cons (.gi "RIGHT_BRACE" (125)) (.nil))) (.call i_is_point (.cons (.var 3) (.nil))))) (.cons (.gi "BAD_ESCAPE" (3)) (.cons (.var 1) (.nil)))))) (.cons (.auga 0 1 .add (.var 0) (.int (1))) (.cons (.ret (.var 3)) (.nil))))))))))))
def f_Source_escape : Df := ⟨1, 5, b_Source_escape⟩
def b_Source_stands : Ss := .cons (.ret (.and2 (.not (.meth 0 i_Source_is_over (.var 0) (.nil))) (.cmp .eq (.ix (.at 0 0 (.var 0)) (.at 0 1 (.var 0))) (.var 1)))) (.nil)
def f_Source_stands : Df := ⟨2, 2, b_Source_stands⟩
def b_Source_hexadecimal : Ss := .cons (.asg 1 (.int (0))) (.cons (.asg 2 (.int (0))) (.cons (.wh (.and2 (.not (.meth 0 i_Source_is_over (.var 0) (.nil))) (.cmp .ge (.call i_hex_worth (.cons (.ix (.at 0 0 (.var 0)) (.at 0 1 (.var 0))) (.nil))) (.int (0)))) (.cons (.asg 1 (.bin .add (.bin .mul (.int (16)) (.var 1)) (.call i_hex_worth (.cons (.ix (.at 0 0 (.var 0)) (.at 0 1 (.var 0))) (.nil))))) (.cons (.asg 2 (.bin .add (.var 2) (.int (1)))) (.cons (.auga 0 1 .add (.var 0) (.int (1))) (.nil))))) (.cons (.ret (.tup (.cons (.var 1) (.cons (.var 2) (.nil))))) (.nil))))
def f_Source_hexadecimal : Df := ⟨1, 3, b_Source_hexadecimal⟩
def b_Settings___init__ : Ss := .cons (.asg 1 (.rngL (.int (1)) (.bin .add (.gi "MOST_LEVEL_settings" (6)) (.int (1))))) (.cons (.seta 1 0 (.var 0) (.dict false (.lc (.n 2) (.var 1) (.bl true) (.tup (.cons (.var 2) (.cons (.call i_default_heading (.cons (.var 2) (.nil))) (.nil))))))) (.cons (.seta 1 1 (.var 0) (.dict false (.lc (.n 2) (.var 1) (.bl true) (.tup (.cons (.var 2) (.cons (.int (1)) (.nil))))))) (.cons (.seta 1 2 (.var 0) (.dict false (.lc (.t [3, 4, 5]) (.gt "DEFAULTS" (t_DEFAULTS)) (.bl true) (.tup (.cons (.var 3) (.cons (.call i_default_counted (.cons (.var 4) (.cons (.var 5) (.nil)))) (.nil))))))) (.cons (.seta 1 3 (.var 0) (.dict false (.lc (.n 3) (.gt "COUNTED" (t_COUNTED)) (.bl true) (.tup (.cons (.var 3) (.cons (.int (0)) (.nil))))))) (.cons (.seta 1 4 (.var 0) (.dicM true)) (.nil))))))
def f_Settings___init__ : Df := ⟨1, 6, b_Settings___init__⟩
def b_Settings_take : Ss := .cons (.asgT [4, 5] (.var 1)) (.cons (.ex (.call i_check_place (.cons (.and2 (.isi .list (.var 4)) (.cmp .ne (.var 4) (.lst (.nil)))) (.cons (.gi "NO_SETTING" (7)) (.cons (.var 5) (.nil)))))) (.cons (.asg 2 (.ix (.ix (.var 4) (.int (0))) (.int (0)))) (.cons (.ex (.call i_check_place (.cons (.and2 (.isi .str (.var 2)) (.ginS "ARGUMENTS" (d_ARGUMENTS) (.var 2))) (.cons (.gi "NO_SETTING" (7)) (.cons (.var 5) (.nil)))))) (.cons (.asg 3 (.slF (.var 4) (.int (1)))) (.cons (.ex (.call i_check_place (.cons (.cmp .eq (.b1 .len (.var 3)) (.ggetS "ARGUMENTS" (d_ARGUMENTS) (.var 2))) (.cons (.gi "BAD_ARGUMENTS" (8)) (.cons (.var 5) (.nil)))))) (.cons (.if_ (.cmp .eq (.var 2) (.str [115, 107, 105, 112])) (.cons (.ex (.meth 1 i_Settings_take_skip (.var 0) (.cons (.ix (.var 3) (.int (0))) (.nil)))) (.nil)) (.cons (.if_ (.cmp .in_ (.var 2) (.gt "COUNTED" (t_COUNTED))) (.cons (.asg 6 (.call i_pattern_at (.cons (.ix (.var 3) (.int (0))) (.nil)))) (.cons (.setx (.at 1 3 (.var 0)) (.var 2) (.call i_whole_at (.cons (.ix (.var 3) (.int (1))) (.cons (.int (0)) (.cons (.gi "MOST_LEVEL_settings" (6)) (.nil)))))) (.cons (.setx (.at 1 2 (.var 0)) (.var 2) (.var 6)) (.nil)))) (.cons (.ex (.meth 1 i_Settings_take_level (.var 0) (.cons (.var 2) (.cons (.var 3) (.nil))))) (.nil))) (.nil))) (.nil)))))))
def f_Settings_take : Df := ⟨2, 7, b_Settings_take⟩
def b_Settings_take_skip : Ss := .cons (.asg 2 (.call i_text_at (.cons (.var 1) (.nil)))) (.cons (.ex (.call i_check_place (.cons (.call i_is_label (.cons (.var 2) (.nil))) (.cons (.gi "OUT_OF_RANGE" (9)) (.cons (.ix (.var 1) (.int (1))) (.nil)))))) (.cons (.setx (.at 1 4 (.var 0)) (.var 2) (.bl true)) (.nil)))
def f_Settings_take_skip : Df := ⟨2, 3, b_Settings_take_skip⟩
def b_Settings_take_level : Ss := .cons (.asg 3 (.call i_whole_at (.cons (.ix (.var 2) (.int (0))) (.cons (.int (1)) (.cons (.gi "MOST_LEVEL_settings" (6)) (.nil)))))) (.cons (.if_ (.cmp .eq (.var 1) (.str [104, 101, 97, 100, 105, 110, 103])) (.cons (.setx (.at 1 0 (.var 0)) (.var 3) (.call i_pattern_at (.cons (.ix (.var 2) (.int (1))) (.nil)))) (.nil)) (.cons (.setx (.at 1 1 (.var 0)) (.var 3) (.call i_whole_at (.cons (.ix (.var 2) (.int (1))) (.cons (.int (1)) (.cons (.gi "MOST_START" (9999)) (.nil)))))) (.nil))) (.nil))
def f_Settings_take_level : Df := ⟨3, 4, b_Settings_take_level⟩
def dfs : List Df := [f_check_place, f_codes, f_is_point, f_length_by, f_sequence_at, f_is_label_sign, f_is_label, f_number_piece, f_pieces_of, f_is_figure, f_is_small, f_hex_worth, f_read_value, f_read_expressions, f_plain_pieces, f_default_counted, f_default_heading, f_whole_at, f_text_at, f_pattern_at, f_read_settings, f_check, f_Source___init__, f_Source_is_over, f_Source_pass_remark, f_Source_integer, f_Source_symbol, f_Source_string, f_Source_character, f_Source_escape, f_Source_stands, f_Source_hexadecimal, f_Settings___init__, f_Settings_take, f_Settings_take_skip, f_Settings_take_level]
end UT
end Cn

namespace Cn
theorem lc_map {σ : Sl} {g : Tg} {c el : Sl → Mu → Res W} {m : Mu} {f : W → D} : ∀ (ws : List W), (∀ x ∈ ws, ∃ σ1, bindG σ x g = some σ1 ∧ c σ1 m = .ok (.d (.bl true)) m ∧ el σ1 m = .ok (.d (f x)) m) → lcGo σ g c el ws m = .ok (ws.map f) m
  | [], _ => rfl
  | x :: r, h => by
    obtain ⟨σ1, h1, h2, h3⟩ := h x List.mem_cons_self
    have ih := lc_map r fun y hy => h y (List.mem_cons_of_mem _ hy)
    rw [lcGo, h1]
    simp only [h2, h3, Res.nox_ok, Res.bind_ok, ih, List.map_cons]
/-- numbers as data -/
def nD (l : List Nat) : List D := l.map fun (c : Nat) => D.int (c : Int)
theorem nD_len (l : List Nat) : (nD l).length = l.length := by simp [nD]
theorem nD_app (a b : List Nat) : nD (a ++ b) = nD a ++ nD b := by simp [nD]
theorem run_at {T : List Df} {n f : Nat} {d : Df} (h : T[f]? = some d) (ws : List W) (m : Mu) : run T (n + 1) f ws m = runD (run T n) d ws m := by
  show (match T[f]? with | some d => runD (run T n) d ws m | none => .stuck) = _
  rw [h]
theorem ev_lc {C : Calls} {σ : Sl} {m : Mu} {g : Tg} {it c el : E} {us : List W} {f : W → D} (hi : ((evE C σ m it).bind fun x m => optR (itemsD x) m) = .ok us m) (h : ∀ x ∈ us, ∃ σ1, bindG (wipeS σ (tgs g)) x g = some σ1 ∧ evE C σ1 m c = .ok (.d (.bl true)) m ∧ evE C σ1 m el = .ok (.d (f x)) m) (hl : us.length ≤ line) :
    evE C σ m (.lc g it c el) = .ok (.d (.lst (us.map f))) m := by
  rw [evE, hi]
  show ((lcGo (wipeS σ (tgs g)) g (fun σ m => evE C σ m c) (fun σ m => evE C σ m el) us m).bind fun xs m => guardR (decide (xs.length ≤ line)) (Res.ok (W.d (D.lst xs)) m)) = _
  rw [lc_map us h]
  simp [guardR, hl]
theorem ev_ret {C : Calls} {σ : Sl} {m : Mu} {e : E} {r : Ss} : evSs C σ m (.cons (.ret e) r) = (evE C σ m e).toS σ fun w m => .ret w σ m := by
  simp only [evSs, evS]
  cases evE C σ m e <;> rfl
theorem ev_b1 {C : Calls} {σ : Sl} {m : Mu} {b : Bi} {a : E} : evE C σ m (.b1 b a) = (evE C σ m a).bind fun x m => b1R m b x := by simp only [evE]
end Cn

namespace Cn
namespace UT
theorem lst_at (m : Mu) (xs : List D) : rootAt (m ++ [some ⟨.o (.lst xs), []⟩]) m.length = some (.o (.lst xs)) := by
  simp [rootAt, grAt]
theorem lst_set (m : Mu) (xs : List D) (o : Ob) : setRoot (m ++ [some ⟨.o (.lst xs), []⟩]) m.length o = m ++ [some ⟨o, []⟩] := by
  simp [setRoot, grAt]
theorem r_is_point (n c : Nat) (m : Mu) : run dfs (n + 1) i_is_point [.d (.int c)] m = .ok (.d (.bl (Kh450.isScalar c))) m := by
  rw [run_at (d := f_is_point) rfl]
  have h0 : (0 : Int) ≤ c := by omega
  by_cases h1 : (c : Int) ≤ 1114111
  · by_cases h2 : (55296 : Int) ≤ c
    · by_cases h3 : (c : Int) ≤ 57343
      · have e : Kh450.isScalar c = false := by simp [Kh450.isScalar]; omega
        simp [runD, f_is_point, b_is_point, start, evSs, evS, evE, evEs, cmpR, ordR, blR, h0, h1, h2, h3, endS, endR, e]
      · have e : Kh450.isScalar c = true := by simp [Kh450.isScalar]; omega
        simp [runD, f_is_point, b_is_point, start, evSs, evS, evE, evEs, cmpR, ordR, blR, h0, h1, h2, h3, endS, endR, e]
    · have e : Kh450.isScalar c = true := by simp [Kh450.isScalar]; omega
      simp [runD, f_is_point, b_is_point, start, evSs, evS, evE, evEs, cmpR, ordR, blR, h0, h1, h2, endS, endR, e]
  · have e : Kh450.isScalar c = false := by simp [Kh450.isScalar]; omega
    simp [runD, f_is_point, b_is_point, start, evSs, evS, evE, evEs, cmpR, ordR, blR, h0, h1, endS, endR, e]
def lenBy (b : Nat) : Nat := if 194 ≤ b ∧ b ≤ 223 then 2 else if 224 ≤ b ∧ b ≤ 239 then 3 else if 240 ≤ b ∧ b ≤ 244 then 4 else 0
theorem r_length_by (n b : Nat) (m : Mu) : run dfs (n + 1) i_length_by [.d (.int b)] m = .ok (.d (.int (lenBy b))) m := by
  rw [run_at (d := f_length_by) rfl]
  unfold lenBy
  by_cases h1 : (194 : Int) ≤ b <;> by_cases h2 : (b : Int) ≤ 223 <;> by_cases h3 : (224 : Int) ≤ b <;> by_cases h4 : (b : Int) ≤ 239 <;> by_cases h5 : (240 : Int) ≤ b <;> by_cases h6 : (b : Int) ≤ 244 <;>
    first
    | omega
    | (have n1 : (194 ≤ b) = ((194 : Int) ≤ b) := by simp only [eq_iff_iff]; omega
       have n2 : (b ≤ 223) = ((b : Int) ≤ 223) := by simp only [eq_iff_iff]; omega
       have n3 : (224 ≤ b) = ((224 : Int) ≤ b) := by simp only [eq_iff_iff]; omega
       have n4 : (b ≤ 239) = ((b : Int) ≤ 239) := by simp only [eq_iff_iff]; omega
       have n5 : (240 ≤ b) = ((240 : Int) ≤ b) := by simp only [eq_iff_iff]; omega
       have n6 : (b ≤ 244) = ((b : Int) ≤ 244) := by simp only [eq_iff_iff]; omega
       simp only [n1, n2, n3, n4, n5, n6]
       simp [runD, f_length_by, b_length_by, start, tst, evSs, evS, evE, evEs, cmpR, ordR, blR, h1, h2, h3, h4, h5, h6, endS, endR])

theorem atZ_mid {α : Type} (p : List α) (a : α) (r : List α) : atZ (p ++ a :: r) (p.length : Int) = some a := by
  have h : (p.length : Int) < p.length + (r.length + 1) := by omega
  unfold atZ ixZ
  simp [h]
theorem cutZ_mid {α : Type} (p : List α) (a : α) (r : List α) (k : Nat) (hk : k ≤ r.length) : cutZ (p ++ a :: r) (some ((p.length : Int) + 1)) (some ((p.length : Int) + (k + 1 : Nat))) = r.take k := by
  unfold cutZ
  have c1 : clipZ (p ++ a :: r).length 0 (some ((p.length : Int) + 1)) = p.length + 1 := by
    unfold clipZ
    simp only [List.length_append, List.length_cons]
    split
    · omega
    · omega
  have c2 : clipZ (p ++ a :: r).length (p ++ a :: r).length (some ((p.length : Int) + (k + 1 : Nat))) = p.length + 1 + k := by
    unfold clipZ
    simp only [List.length_append, List.length_cons]
    split
    · omega
    · omega
  rw [c1, c2]
  have d : (p ++ a :: r).drop (p.length + 1) = r := by
    rw [← List.drop_drop]
    simp
  rw [d]
  congr 1
  omega

/-- the loop of sequence_at -/
def seqStep (f b : Nat) : Nat := 64 * f + b - 128
abbrev seqB : Ss := .cons (.if_ (.not (.ch .le .le (.int (128)) (.var 4) (.int (191)))) (.cons (.ret (.tup (.cons (.int (0)) (.cons (.int (0)) (.nil))))) (.nil)) (.nil)) (.cons (.asg 3 (.bin .sub (.bin .add (.bin .mul (.int (64)) (.var 3)) (.var 4)) (.int (128)))) (.nil))
theorem seq_step (n : Nat) (m : Mu) (x0 x1 x2 : Option W) (f b : Nat) (h : Kh450.isContinuation b = true) : evSs (run dfs n) [x0, x1, x2, some (.d (.int f)), some (.d (.int b))] m seqB = .next [x0, x1, x2, some (.d (.int (seqStep f b : Nat))), some (.d (.int b))] m := by
  simp [Kh450.isContinuation] at h
  have h1 : (128 : Int) ≤ b := by omega
  have h2 : (b : Int) ≤ 191 := by omega
  have e : (64 : Int) * f + b - 128 = (seqStep f b : Nat) := by unfold seqStep; omega
  simp [evSs, evS, evE, evEs, tst, cmpR, ordR, blR, h1, h2, binR, addR, subR, mulR, e]
theorem seq_bad (n : Nat) (m : Mu) (x0 x1 x2 : Option W) (f b : Nat) (h : Kh450.isContinuation b = false) : evSs (run dfs n) [x0, x1, x2, some (.d (.int f)), some (.d (.int b))] m seqB = .ret (.d (.tup [.int 0, .int 0])) [x0, x1, x2, some (.d (.int f)), some (.d (.int b))] m := by
  simp [Kh450.isContinuation] at h
  by_cases h1 : (128 : Int) ≤ b
  · have h2 : ¬ (b : Int) ≤ 191 := by omega
    simp [evSs, evS, evE, evEs, tst, cmpR, ordR, blR, h1, h2, allD, guardR, line]
  · simp [evSs, evS, evE, evEs, tst, cmpR, ordR, blR, h1, allD, guardR, line]
theorem seq_loop (n : Nat) (m : Mu) (x0 x1 x2 : Option W) : ∀ (l : List Nat) (f : Nat) (x4 : Option W), ∃ σ x4',
    forGo (.n 4) (fun σ m => evSs (run dfs n) σ m seqB) ((nD l).map .d) [x0, x1, x2, some (.d (.int f)), x4] m =
      if l.all Kh450.isContinuation then .next [x0, x1, x2, some (.d (.int (l.foldl seqStep f : Nat))), x4'] m else SR.ret (.d (.tup [.int 0, .int 0])) σ m
  | [], f, x4 => ⟨[], x4, by simp [nD, forGo]⟩
  | b :: l, f, x4 => by
    cases h : Kh450.isContinuation b with
    | true =>
      obtain ⟨σ, x4', ih⟩ := seq_loop n m x0 x1 x2 l (seqStep f b) (some (.d (.int b)))
      refine ⟨σ, x4', ?_⟩
      show (evSs (run dfs n) [x0, x1, x2, some (.d (.int f)), some (.d (.int b))] m seqB).then _ = _
      rw [seq_step n m x0 x1 x2 f b h, SR.then_next]
      refine Eq.trans ih ?_
      simp [h]
    | false =>
      refine ⟨[x0, x1, x2, some (.d (.int f)), some (.d (.int b))], x4, ?_⟩
      show (evSs (run dfs n) [x0, x1, x2, some (.d (.int f)), some (.d (.int b))] m seqB).then _ = _
      rw [seq_bad n m x0 x1 x2 f b h, SR.then_ret]
      simp [h]

def base (k : Nat) : Nat := if k = 2 then 192 else if k = 3 then 224 else 240
def low (k : Nat) : Nat := if k = 2 then 128 else if k = 3 then 2048 else 65536
/-- decodeUtf8 as the code goes about it -/
def dec (a : Nat) (r : List Nat) : Option (Nat × List Nat) :=
  if a < 128 then some (a, r) else if lenBy a = 0 ∨ r.length + 1 < lenBy a then none
  else if (r.take (lenBy a - 1)).all Kh450.isContinuation then
    (if low (lenBy a) ≤ (r.take (lenBy a - 1)).foldl seqStep (a - base (lenBy a)) ∧ Kh450.isScalar ((r.take (lenBy a - 1)).foldl seqStep (a - base (lenBy a))) = true then
      some ((r.take (lenBy a - 1)).foldl seqStep (a - base (lenBy a)), r.drop (lenBy a - 1)) else none)
  else none
theorem cont_iff {b : Nat} : Kh450.isContinuation b = true ↔ 128 ≤ b ∧ b < 192 := by simp [Kh450.isContinuation]
theorem dec_eq (a : Nat) (r : List Nat) : Kh450.decodeUtf8 (a :: r) = dec a r := by
  by_cases h1 : a < 128
  · simp [Kh450.decodeUtf8, dec, h1]
  · by_cases h2 : a < 194
    · have e : lenBy a = 0 := by unfold lenBy; rw [if_neg (by omega), if_neg (by omega), if_neg (by omega)]
      simp [Kh450.decodeUtf8, dec, h1, h2, e]
    · by_cases h3 : a < 224
      · have e : lenBy a = 2 := by unfold lenBy; rw [if_pos (by omega)]
        match r with
        | [] => simp [Kh450.decodeUtf8, dec, h1, h2, h3, e]
        | b :: r =>
          cases hb : Kh450.isContinuation b with
          | false => simp [Kh450.decodeUtf8, dec, h1, h2, h3, e, hb]
          | true =>
            have q := cont_iff.mp hb
            have v : a % 32 * 64 + b % 64 = seqStep (a - 192) b := by unfold seqStep; omega
            have v2 : 128 ≤ seqStep (a - 192) b := by unfold seqStep; omega
            have v3 : Kh450.isScalar (seqStep (a - 192) b) = true := by unfold seqStep; simp [Kh450.isScalar]; omega
            simp [Kh450.decodeUtf8, dec, h1, h2, h3, e, hb, v, v2, v3, base, low]
      · by_cases h4 : a < 240
        · have e : lenBy a = 3 := by unfold lenBy; rw [if_neg (by omega), if_pos (by omega)]
          match r with
          | [] => simp [Kh450.decodeUtf8, dec, h1, h2, h3, h4, e]
          | [b] => simp [Kh450.decodeUtf8, dec, h1, h2, h3, h4, e]
          | b :: c :: r =>
            cases hb : Kh450.isContinuation b with
            | false => simp [Kh450.decodeUtf8, dec, h1, h2, h3, h4, e, hb]
            | true =>
              cases hc : Kh450.isContinuation c with
              | false => simp [Kh450.decodeUtf8, dec, h1, h2, h3, h4, e, hb, hc]
              | true =>
                have q := cont_iff.mp hb
                have q2 := cont_iff.mp hc
                have v : a % 16 * 4096 + b % 64 * 64 + c % 64 = seqStep (seqStep (a - 224) b) c := by unfold seqStep; omega
                simp [Kh450.decodeUtf8, dec, h1, h2, h3, h4, e, hb, hc, v, base, low]
                intro hq; omega
        · by_cases h5 : a < 245
          · have e : lenBy a = 4 := by unfold lenBy; rw [if_neg (by omega), if_neg (by omega), if_pos (by omega)]
            match r with
            | [] => simp [Kh450.decodeUtf8, dec, h1, h2, h3, h4, h5, e]
            | [b] => simp [Kh450.decodeUtf8, dec, h1, h2, h3, h4, h5, e]
            | [b, c] => simp [Kh450.decodeUtf8, dec, h1, h2, h3, h4, h5, e]
            | b :: c :: d :: r =>
              cases hb : Kh450.isContinuation b with
              | false => simp [Kh450.decodeUtf8, dec, h1, h2, h3, h4, h5, e, hb]
              | true =>
                cases hc : Kh450.isContinuation c with
                | false => simp [Kh450.decodeUtf8, dec, h1, h2, h3, h4, h5, e, hb, hc]
                | true =>
                  cases hd : Kh450.isContinuation d with
                  | false => simp [Kh450.decodeUtf8, dec, h1, h2, h3, h4, h5, e, hb, hc, hd]
                  | true =>
                    have q := cont_iff.mp hb
                    have q2 := cont_iff.mp hc
                    have q3 := cont_iff.mp hd
                    have v : a % 8 * 262144 + b % 64 * 4096 + c % 64 * 64 + d % 64 = seqStep (seqStep (seqStep (a - 240) b) c) d := by unfold seqStep; omega
                    simp [Kh450.decodeUtf8, dec, h1, h2, h3, h4, h5, e, hb, hc, hd, v, base, low]
                    intro hq; omega
          · have e : lenBy a = 0 := by unfold lenBy; rw [if_neg (by omega), if_neg (by omega), if_neg (by omega)]
            simp [Kh450.decodeUtf8, dec, h1, h2, h3, h4, h5, e]

theorem ix_row (m : Mu) (p : List Nat) (a : Nat) (r : List Nat) : ixR m (.d (.lst (nD (p ++ a :: r)))) (.d (.int (p.length : Int))) = .ok (.d (.int a)) m := by
  have h := atZ_mid (nD p) (D.int a) (nD r)
  rw [nD_len] at h
  have e : nD (p ++ a :: r) = nD p ++ D.int a :: nD r := by simp [nD]
  simp only [ixR, e, h]
theorem lenBy_cases (a : Nat) : lenBy a = 0 ∨ lenBy a = 2 ∨ lenBy a = 3 ∨ lenBy a = 4 := by
  unfold lenBy
  repeat (first | (split; simp) | simp)
theorem lenBy_base {a : Nat} (h : lenBy a ≠ 0) : base (lenBy a) ≤ a := by
  by_cases h1 : 194 ≤ a ∧ a ≤ 223
  · have e : lenBy a = 2 := by unfold lenBy; rw [if_pos h1]
    rw [e]; show 192 ≤ a; omega
  · by_cases h2 : 224 ≤ a ∧ a ≤ 239
    · have e : lenBy a = 3 := by unfold lenBy; rw [if_neg h1, if_pos h2]
      rw [e]; show 224 ≤ a; omega
    · by_cases h3 : 240 ≤ a ∧ a ≤ 244
      · have e : lenBy a = 4 := by unfold lenBy; rw [if_neg h1, if_neg h2, if_pos h3]
        rw [e]; show 240 ≤ a; omega
      · exact absurd (by unfold lenBy; rw [if_neg h1, if_neg h2, if_neg h3]) h

def seqW (a : Nat) (r : List Nat) : W := match dec a r with
  | none => .d (.tup [.int 0, .int 0])
  | some (c, rest) => .d (.tup [.int c, .int ((r.length + 1 - rest.length : Nat) : Int)])
theorem eq_int (m : Mu) (i j : Int) : eqR m (.d (.int i)) (.d (.int j)) = .ok (decide (i = j)) m := by
  simp [eqR, rd, D.plain, D.depth, D.eqv]
  try rfl
theorem r_seq_1 (n a : Nat) (p r : List Nat) (m : Mu) (h : a < 128) : run dfs (n + 2) i_sequence_at [.d (.lst (nD (p ++ a :: r))), .d (.int (p.length : Int))] m = .ok (seqW a r) m := by
  rw [run_at (d := f_sequence_at) rfl]
  have e := ix_row m p a r
  have h' : (a : Int) < 128 := by omega
  have h2 : r.length + 1 - r.length = 1 := by omega
  simp [runD, f_sequence_at, b_sequence_at, start, evSs, evS, evE, evEs, tst, cmpR, ordR, blR, eq_int, e, h', allD, guardR, line, endS, endR, seqW, dec, h, h2]
theorem r_seq_0 (n a : Nat) (p r : List Nat) (m : Mu) (h : ¬ a < 128) (h0 : lenBy a = 0 ∨ r.length + 1 < lenBy a) (hr : (p ++ a :: r).length ≤ line) : run dfs (n + 2) i_sequence_at [.d (.lst (nD (p ++ a :: r))), .d (.int (p.length : Int))] m = .ok (seqW a r) m := by
  rw [run_at (d := f_sequence_at) rfl]
  have e := ix_row m p a r
  have h' : ¬ (a : Int) < 128 := by omega
  have e3 := r_length_by n a m
  have hs : seqW a r = .d (.tup [.int 0, .int 0]) := by simp [seqW, dec, h, h0]
  rw [hs]
  by_cases hz : lenBy a = 0
  · simp [runD, f_sequence_at, b_sequence_at, start, evSs, evS, evE, evEs, tst, cmpR, ordR, blR, eq_int, e, e3, hz, h', allD, guardR, line, endS, endR]
  · have hz' : ¬ (lenBy a : Int) = 0 := by omega
    have hl : (p.length : Int) + (r.length + 1) < p.length + lenBy a := by omega
    simp [runD, f_sequence_at, b_sequence_at, start, evSs, evS, evE, evEs, tst, cmpR, ordR, blR, eq_int, e, e3, hz', h', allD, guardR, line, endS, endR, binR, addR, b1R, items, itemsD, rd, hl, hz, nD_len]
    have hr' : p.length + (r.length + 1) ≤ 16777216 := by simpa [line] using hr
    simp [hr', hl, endS, endR]

theorem cut_row (p r : List Nat) (a k : Nat) (hk : k ≤ r.length) : cutZ (nD (p ++ a :: r)) (some ((p.length : Int) + 1)) (some ((p.length : Int) + (k + 1 : Nat))) = nD (r.take k) := by
  have h := cutZ_mid (nD p) (D.int a) (nD r) k (by rw [nD_len]; exact hk)
  rw [nD_len] at h
  have e : nD (p ++ a :: r) = nD p ++ D.int a :: nD r := by simp [nD]
  rw [e, h]
  simp [nD]
theorem ix_base (m : Mu) (k : Nat) (h : k = 2 ∨ k = 3 ∨ k = 4) : ixR m (.d (.tup [.int 192, .int 224, .int 240])) (.d (.int ((k : Int) - 2))) = .ok (.d (.int (base k))) m := by
  rcases h with rfl | rfl | rfl <;> rfl
theorem ix_low (m : Mu) (k : Nat) (h : k = 2 ∨ k = 3 ∨ k = 4) : ixR m (.d (.tup [.int 128, .int 2048, .int 65536])) (.d (.int ((k : Int) - 2))) = .ok (.d (.int (low k))) m := by
  rcases h with rfl | rfl | rfl <;> rfl

theorem r_seq_2 (n a : Nat) (p r : List Nat) (m : Mu) (h : ¬ a < 128) (h0 : lenBy a ≠ 0) (h1 : lenBy a ≤ r.length + 1) (hr : (p ++ a :: r).length ≤ line) : run dfs (n + 2) i_sequence_at [.d (.lst (nD (p ++ a :: r))), .d (.int (p.length : Int))] m = .ok (seqW a r) m := by
  rw [run_at (d := f_sequence_at) rfl]
  have e := ix_row m p a r
  have h' : ¬ (a : Int) < 128 := by omega
  have e3 := r_length_by n a m
  have kc : lenBy a = 2 ∨ lenBy a = 3 ∨ lenBy a = 4 := (lenBy_cases a).resolve_left h0
  have hz' : ¬ (lenBy a : Int) = 0 := by omega
  have hl : ¬ (p.length : Int) + (r.length + 1) < p.length + lenBy a := by omega
  have hr' : p.length + (r.length + 1) ≤ 16777216 := by simpa [line] using hr
  have eb := ix_base m _ kc
  have el := ix_low m _ kc
  have hb := lenBy_base h0
  have es : (a : Int) - base (lenBy a) = (a - base (lenBy a) : Nat) := by omega
  have ec := cut_row p r a (lenBy a - 1) (by omega)
  have e1 : lenBy a - 1 + 1 = lenBy a := by omega
  rw [e1] at ec
  obtain ⟨σ, x4, lp⟩ := seq_loop (n + 1) m (some (.d (.lst (nD (p ++ a :: r))))) (some (.d (.int (p.length : Int)))) (some (.d (.int (lenBy a)))) (r.take (lenBy a - 1)) (a - base (lenBy a)) none
  have e4 := r_is_point n ((r.take (lenBy a - 1)).foldl seqStep (a - base (lenBy a))) m
  have hs0 : runD (run dfs (n + 1)) f_sequence_at [.d (.lst (nD (p ++ a :: r))), .d (.int (p.length : Int))] m = endS m.length (evSs (run dfs (n + 1)) [some (.d (.lst (nD (p ++ a :: r)))), some (.d (.int (p.length : Int))), none, none, none] m b_sequence_at) := by
    simp [runD, f_sequence_at, start]
  rw [hs0]
  unfold b_sequence_at
  generalize hR : (W.d (.lst (nD (p ++ a :: r)))) = R at *
  generalize hA : (W.d (.int (p.length : Int))) = A at *
  rw [evSs]
  have s1 : evS (run dfs (n + 1)) [some R, some A, none, none, none] m (.if_ (.cmp .lt (.ix (.var 0) (.var 1)) (.int (128))) (.cons (.ret (.tup (.cons (.ix (.var 0) (.var 1)) (.cons (.int (1)) (.nil))))) (.nil)) (.nil)) = .next [some R, some A, none, none, none] m := by
    simp [evSs, evS, evE, evEs, tst, cmpR, ordR, blR, e, h']
  rw [s1, SR.then_next, evSs]
  have s2 : evS (run dfs (n + 1)) [some R, some A, none, none, none] m (.asg 2 (.call i_length_by (.cons (.ix (.var 0) (.var 1)) (.nil)))) = .next [some R, some A, some (.d (.int (lenBy a))), none, none] m := by
    simp [evS, evE, evEs, e, e3]
  rw [s2, SR.then_next, evSs]
  have s3 : evS (run dfs (n + 1)) [some R, some A, some (.d (.int (lenBy a))), none, none] m (.if_ (.or2 (.cmp .eq (.var 2) (.int (0))) (.cmp .gt (.bin .add (.var 1) (.var 2)) (.b1 .len (.var 0)))) (.cons (.ret (.tup (.cons (.int (0)) (.cons (.int (0)) (.nil))))) (.nil)) (.nil)) = .next [some R, some A, some (.d (.int (lenBy a))), none, none] m := by
    subst hR
    subst hA
    simp [evSs, evS, evE, evEs, tst, cmpR, ordR, blR, eq_int, h0, guardR, line, binR, addR, b1R, items, itemsD, rd, hl, nD_len, hr']
  rw [s3, SR.then_next, evSs]
  have s4 : evS (run dfs (n + 1)) [some R, some A, some (.d (.int (lenBy a))), none, none] m (.asg 3 (.bin .sub (.ix (.var 0) (.var 1)) (.ix (.tup (.cons (.int (192)) (.cons (.int (224)) (.cons (.int (240)) (.nil))))) (.bin .sub (.var 2) (.int (2)))))) = .next [some R, some A, some (.d (.int (lenBy a))), some (.d (.int (a - base (lenBy a) : Nat))), none] m := by
    simp [evS, evE, evEs, e, allD, guardR, line, binR, subR, eb, es]
  rw [s4, SR.then_next, evSs]
  have s5 : evIt (run dfs (n + 1)) [some R, some A, some (.d (.int (lenBy a))), some (.d (.int (a - base (lenBy a) : Nat))), none] m (.seq (.sl (.var 0) (.bin .add (.var 1) (.int (1))) (.bin .add (.var 1) (.var 2)))) = .ok ((nD (r.take (lenBy a - 1))).map .d) m := by
    subst hR
    subst hA
    simp [evIt, evE, binR, addR, slR, rd, ec, itemsD]
  rw [evS, s5, Res.toS_ok, lp]
  have hnot : ¬ (lenBy a = 0 ∨ r.length + 1 < lenBy a) := by omega
  cases hall : (r.take (lenBy a - 1)).all Kh450.isContinuation with
  | false => simp [endS, endR, seqW, dec, h, hnot, hall]
  | true =>
    rw [if_pos rfl, SR.then_next, evSs]
    generalize hv : (r.take (lenBy a - 1)).foldl seqStep (a - base (lenBy a)) = v at *
    have hd : (r.length + 1 - (r.drop (lenBy a - 1)).length : Nat) = lenBy a := by rw [List.length_drop]; omega
    have hsq : seqW a r = if low (lenBy a) ≤ v ∧ Kh450.isScalar v = true then .d (.tup [.int v, .int (lenBy a)]) else .d (.tup [.int 0, .int 0]) := by
      unfold seqW dec
      rw [if_neg h, if_neg hnot, if_pos hall, hv]
      by_cases g : low (lenBy a) ≤ v ∧ Kh450.isScalar v = true
      · rw [if_pos g, if_pos g]
        show W.d (.tup [.int v, .int ((r.length + 1 - (r.drop (lenBy a - 1)).length : Nat) : Int)]) = _
        rw [hd]
      · rw [if_neg g, if_neg g]
    rw [hsq]
    by_cases hw : v < low (lenBy a)
    · have hw' : (v : Int) < low (lenBy a) := by omega
      have g : ¬ (low (lenBy a) ≤ v ∧ Kh450.isScalar v = true) := by omega
      simp [evSs, evS, evE, evEs, tst, cmpR, ordR, blR, allD, guardR, line, binR, subR, el, hw', endS, endR, g]
    · have hw' : ¬ (v : Int) < low (lenBy a) := by omega
      have g : low (lenBy a) ≤ v := by omega
      cases hsc : Kh450.isScalar v <;>
        simp [evSs, evS, evE, evEs, tst, cmpR, ordR, blR, allD, guardR, line, binR, subR, el, hw', endS, endR, g, e4, hsc]

theorem r_seq (n a : Nat) (p r : List Nat) (m : Mu) (hr : (p ++ a :: r).length ≤ line) : run dfs (n + 2) i_sequence_at [.d (.lst (nD (p ++ a :: r))), .d (.int (p.length : Int))] m = .ok (seqW a r) m := by
  by_cases h : a < 128
  · exact r_seq_1 n a p r m h
  · by_cases h0 : lenBy a = 0 ∨ r.length + 1 < lenBy a
    · exact r_seq_0 n a p r m h h0 hr
    · exact r_seq_2 n a p r m h (by omega) (by omega) hr

theorem dec_cut {a : Nat} {r : List Nat} {c : Nat} {rest : List Nat} (h : dec a r = some (c, rest)) : ∃ q : List Nat, a :: r = q ++ rest ∧ 0 < q.length ∧ q.length = r.length + 1 - rest.length := by
  unfold dec at h
  split at h
  · cases h
    exact ⟨[a], rfl, by simp, by simp⟩
  · split at h
    · cases h
    · rename_i hn
      split at h
      · split at h
        · simp only [Option.some.injEq, Prod.mk.injEq] at h
          obtain ⟨_, rfl⟩ := h
          refine ⟨a :: r.take (lenBy a - 1), by simp, by simp, ?_⟩
          simp
          omega
        · cases h
      · cases h
end UT
end Cn

namespace Cn
namespace UT
def shp : Nat → Option Kh454.Shape
  | 0 => some .arabic
  | 1 => some .upperLetters
  | 2 => some .lowerLetters
  | 3 => some .upperRoman
  | 4 => some .lowerRoman
  | _ => none
def shN : Kh454.Shape → Nat
  | .arabic => 0 | .upperLetters => 1 | .lowerLetters => 2 | .upperRoman => 3 | .lowerRoman => 4
theorem shp_shN (s : Kh454.Shape) : shp (shN s) = some s := by cases s <;> rfl
def partD : Kh454.Part → D
  | .text t => .tup [.int (-1), .int (t.headD 0 : Nat)]
  | .counter s => .tup [.int (shN s), .int 0]
  | .level s n => .tup [.int (shN s), .int n]
theorem ix_tup (m : Mu) (p : List Nat) (a : Nat) (r : List Nat) : ixR m (.d (.tup (nD (p ++ a :: r)))) (.d (.int (p.length : Int))) = .ok (.d (.int a)) m := by
  have h := atZ_mid (nD p) (D.int a) (nD r)
  rw [nD_len] at h
  have e : nD (p ++ a :: r) = nD p ++ D.int a :: nD r := by simp [nD]
  simp only [ixR, e, h]
abbrev npT : Ss := (.cons (.if_ (.and2 (.cmp .lt (.var 1) (.b1 .len (.var 0))) (.cmp .eq (.ix (.var 0) (.var 1)) (.gi "COUNTER" (99)))) (.cons (.ret (.tup (.cons (.tup (.cons (.var 2) (.cons (.int (0)) (.nil)))) (.cons (.bin .add (.var 1) (.int (1))) (.nil))))) (.nil)) (.nil)) (.cons (.if_ (.and2 (.cmp .lt (.var 1) (.b1 .len (.var 0))) (.ch .le .le (.int (49)) (.ix (.var 0) (.var 1)) (.bin .add (.int (48)) (.gi "MOST_LEVEL_texts" (6))))) (.cons (.ret (.tup (.cons (.tup (.cons (.var 2) (.cons (.bin .sub (.ix (.var 0) (.var 1)) (.int (48))) (.nil)))) (.cons (.bin .add (.var 1) (.int (1))) (.nil))))) (.nil)) (.nil)) (.cons (.rais 1 0 (.nil)) (.nil))))
theorem np_nil (n : Nat) (m : Mu) (p : List Nat) (s : Kh454.Shape) (hp : p.length ≤ line) : evSs (run dfs n) [some (.d (.tup (nD p))), some (.d (.int (p.length : Int))), some (.d (.int (shN s)))] m npT = .exc ⟨1, []⟩ [some (.d (.tup (nD p))), some (.d (.int (p.length : Int))), some (.d (.int (shN s)))] m := by
  have hl : p.length ≤ 16777216 := hp
  simp [evSs, evS, evE, evEs, tst, cmpR, ordR, blR, b1R, items, guardR, nD_len, line, hl, intF]
theorem np_cons (n : Nat) (m : Mu) (p : List Nat) (d : Nat) (o : List Nat) (s : Kh454.Shape) (hp : (p ++ d :: o).length ≤ line) :
    evSs (run dfs n) [some (.d (.tup (nD (p ++ d :: o)))), some (.d (.int (p.length : Int))), some (.d (.int (shN s)))] m npT =
      match Kh454.partOf s d with
      | none => .exc ⟨1, []⟩ [some (.d (.tup (nD (p ++ d :: o)))), some (.d (.int (p.length : Int))), some (.d (.int (shN s)))] m
      | some part => .ret (.d (.tup [partD part, .int ((p.length + 1 : Nat) : Int)])) [some (.d (.tup (nD (p ++ d :: o)))), some (.d (.int (p.length : Int))), some (.d (.int (shN s)))] m := by
  have hl : p.length + (o.length + 1) ≤ 16777216 := by simpa [line] using hp
  have hlt : (p.length : Int) < p.length + (o.length + 1) := by omega
  have ei := ix_tup m p d o
  have el : (nD (p ++ d :: o)).length = p.length + (o.length + 1) := by rw [nD_len]; simp
  generalize hL : nD (p ++ d :: o) = L at *
  by_cases h1 : d = 99
  · subst h1
    simp [evSs, evS, evE, evEs, tst, cmpR, ordR, blR, eq_int, b1R, items, guardR, line, hl, hlt, el, ei, allD, binR, addR, Kh454.partOf, partD]
  · have h1' : ¬ (d : Int) = 99 := by omega
    by_cases h2 : 49 ≤ d
    · have h2' : (49 : Int) ≤ d := by omega
      by_cases h3 : d ≤ 54
      · have h3' : (d : Int) ≤ 54 := by omega
        have h4 : (d : Int) - 48 = (d - 48 : Nat) := by omega
        simp [evSs, evS, evE, evEs, tst, cmpR, ordR, blR, eq_int, b1R, items, guardR, line, hl, hlt, el, ei, allD, binR, addR, subR, Kh454.partOf, partD, h1, h1', h2, h2', h3, h3', h4]
      · have h3' : ¬ (d : Int) ≤ 54 := by omega
        simp [evSs, evS, evE, evEs, tst, cmpR, ordR, blR, eq_int, b1R, items, guardR, line, hl, hlt, el, ei, allD, binR, addR, subR, Kh454.partOf, partD, h1, h1', h2, h2', h3, h3', intF]
    · have h2' : ¬ (49 : Int) ≤ d := by omega
      simp [evSs, evS, evE, evEs, tst, cmpR, ordR, blR, eq_int, b1R, items, guardR, line, hl, hlt, el, ei, allD, binR, addR, subR, Kh454.partOf, partD, h1, h1', h2, h2', intF]

theorem cut_one (p r : List Nat) : cutZ (nD (p ++ r)) (some (p.length : Int)) (some ((p.length : Int) + 1)) = nD (r.take 1) := by
  have c1 : clipZ (nD (p ++ r)).length 0 (some (p.length : Int)) = p.length := by
    unfold clipZ
    rw [nD_len]
    simp only [List.length_append]
    split
    · omega
    · omega
  have c2 : clipZ (nD (p ++ r)).length (nD (p ++ r)).length (some ((p.length : Int) + 1)) - p.length = min 1 r.length := by
    unfold clipZ
    rw [nD_len]
    simp only [List.length_append]
    split
    · omega
    · omega
  unfold cutZ
  rw [c1, c2, nD_app, List.drop_append_of_le_length (by rw [nD_len]; omega), List.drop_of_length_le (by rw [nD_len]; omega)]
  cases r <;> simp [nD]
abbrev npI : S := (.if_ (.cmp .eq (.sl (.var 0) (.var 1) (.bin .add (.var 1) (.int (1)))) (.tup (.cons (.gi "PERCENT" (37)) (.nil)))) (.cons (.ret (.tup (.cons (.tup (.cons (.gi "LITERAL" (-1)) (.cons (.gi "PERCENT" (37)) (.nil)))) (.cons (.bin .add (.var 1) (.int (1))) (.nil))))) (.nil)) (.nil))
abbrev npJ : S := (.if_ (.and2 (.cmp .lt (.var 1) (.b1 .len (.var 0))) (.gin "SHAPES" (d_SHAPES) (.ix (.var 0) (.var 1)))) (.cons (.asg 2 (.gget "SHAPES" (d_SHAPES) (.ix (.var 0) (.var 1)))) (.cons (.asg 1 (.bin .add (.var 1) (.int (1)))) (.nil))) (.nil))
theorem np_split : b_number_piece = .cons npI (.cons (.asg 2 (.gi "ARABIC" (0))) (.cons npJ npT)) := rfl
theorem np_i0 (n : Nat) (m : Mu) (p : List Nat) (x2 : Option W) : evS (run dfs n) [some (.d (.tup (nD (p ++ [])))), some (.d (.int (p.length : Int))), x2] m npI = .next [some (.d (.tup (nD (p ++ [])))), some (.d (.int (p.length : Int))), x2] m := by
  have ec := cut_one p []
  generalize nD (p ++ []) = L at *
  simp [nD] at ec
  simp [evSs, evS, evE, evEs, tst, cmpR, eqR, blR, binR, addR, slR, rd, ec, allD, guardR, line, D.plain, D.plains, D.depth, D.depths, D.eqv, D.eqvs]
theorem np_i1 (n : Nat) (m : Mu) (p : List Nat) (c : Nat) (r : List Nat) (x2 : Option W) : evS (run dfs n) [some (.d (.tup (nD (p ++ c :: r)))), some (.d (.int (p.length : Int))), x2] m npI =
    if c = 37 then .ret (.d (.tup [.tup [.int (-1), .int 37], .int ((p.length : Int) + 1)])) [some (.d (.tup (nD (p ++ c :: r)))), some (.d (.int (p.length : Int))), x2] m else .next [some (.d (.tup (nD (p ++ c :: r)))), some (.d (.int (p.length : Int))), x2] m := by
  have ec := cut_one p (c :: r)
  generalize nD (p ++ c :: r) = L at *
  simp [nD] at ec
  by_cases h : c = 37
  · subst h
    simp [evSs, evS, evE, evEs, tst, cmpR, eqR, blR, binR, addR, slR, rd, ec, allD, guardR, line, D.plain, D.plains, D.depth, D.depths, D.eqv, D.eqvs]
  · have h' : ¬ (c : Int) = 37 := by omega
    simp [evSs, evS, evE, evEs, tst, cmpR, eqR, blR, binR, addR, slR, rd, ec, allD, guardR, line, D.plain, D.plains, D.depth, D.depths, D.eqv, D.eqvs, h, h']
theorem np_j0 (n : Nat) (m : Mu) (p : List Nat) (x2 : W) (hp : p.length ≤ line) : evS (run dfs n) [some (.d (.tup (nD (p ++ [])))), some (.d (.int (p.length : Int))), some x2] m npJ = .next [some (.d (.tup (nD (p ++ [])))), some (.d (.int (p.length : Int))), some x2] m := by
  have hl : p.length ≤ 16777216 := hp
  have el : (nD (p ++ [])).length = p.length := by rw [nD_len]; simp
  generalize nD (p ++ []) = L at *
  simp [evSs, evS, evE, evEs, tst, cmpR, ordR, blR, b1R, items, guardR, el, line, hl]
theorem shape_lk (c : Nat) : d_SHAPES.lookup (c : Int) = (Kh454.shapeOf c).map fun s => (shN s : Int) := by
  unfold d_SHAPES Kh454.shapeOf
  by_cases h1 : c = 65
  · subst h1; rfl
  · by_cases h2 : c = 97
    · subst h2; rfl
    · by_cases h3 : c = 82
      · subst h3; rfl
      · by_cases h4 : c = 114
        · subst h4; rfl
        · have q1 : ((c : Int) == 65) = false := by simp; omega
          have q2 : ((c : Int) == 97) = false := by simp; omega
          have q3 : ((c : Int) == 82) = false := by simp; omega
          have q4 : ((c : Int) == 114) = false := by simp; omega
          simp [List.lookup, q1, q2, q3, q4, h1, h2, h3, h4]
theorem np_j1 (n : Nat) (m : Mu) (p : List Nat) (c : Nat) (r : List Nat) (x2 : W) (hp : (p ++ c :: r).length ≤ line) : evS (run dfs n) [some (.d (.tup (nD (p ++ c :: r)))), some (.d (.int (p.length : Int))), some x2] m npJ =
    match Kh454.shapeOf c with
    | none => .next [some (.d (.tup (nD (p ++ c :: r)))), some (.d (.int (p.length : Int))), some x2] m
    | some s => .next [some (.d (.tup (nD (p ++ c :: r)))), some (.d (.int ((p.length : Int) + 1))), some (.d (.int (shN s)))] m := by
  have hl : p.length + (r.length + 1) ≤ 16777216 := by simpa [line] using hp
  have hlt : (p.length : Int) < p.length + (r.length + 1) := by omega
  have ei := ix_tup m p c r
  have el : (nD (p ++ c :: r)).length = p.length + (r.length + 1) := by rw [nD_len]; simp
  have eg : ginR d_SHAPES m (.d (.int c)) = .ok (.d (.bl (Kh454.shapeOf c).isSome)) m := by
    rw [ginR, shape_lk]
    cases Kh454.shapeOf c <;> rfl
  have eh : ∀ s, Kh454.shapeOf c = some s → ggetR d_SHAPES m (.d (.int c)) = .ok (.d (.int (shN s))) m := by
    intro s hs
    rw [ggetR, shape_lk, hs]
    rfl
  generalize nD (p ++ c :: r) = L at *
  cases hs : Kh454.shapeOf c with
  | none =>
    rw [hs] at eg
    simp [evSs, evS, evE, evEs, tst, cmpR, ordR, blR, b1R, items, guardR, el, line, hl, hlt, ei, eg]
  | some s =>
    rw [hs] at eg
    have eh := eh s hs
    simp [evSs, evS, evE, evEs, tst, cmpR, ordR, blR, b1R, items, guardR, el, line, hl, hlt, ei, eg, eh]
    simp [binR, addR]
theorem rp_37 (r : List Nat) : Kh454.readPart (37 :: r) = some (.text [37], r) := rfl
theorem rp_c {c : Nat} (r : List Nat) (h : c ≠ 37) : Kh454.readPart (c :: r) = match Kh454.shapeOf c with
    | none => (Kh454.partOf .arabic c).map fun part => (part, r)
    | some shape => match r with
      | [] => none
      | d :: others => (Kh454.partOf shape d).map fun part => (part, others) := by
  unfold Kh454.readPart
  split
  · contradiction
  · rename_i e; cases e; contradiction
  · rename_i e; cases e; rfl
theorem r_np (n : Nat) (p rest : List Nat) (m : Mu) (hp : (p ++ rest).length ≤ line) : run dfs (n + 1) i_number_piece [.d (.tup (nD (p ++ rest))), .d (.int (p.length : Int))] m =
    match Kh454.readPart rest with
    | none => .exc ⟨1, []⟩ m
    | some (part, others) => .ok (.d (.tup [partD part, .int ((p.length + (rest.length - others.length) : Nat) : Int)])) m := by
  rw [run_at (d := f_number_piece) rfl]
  show endS m.length (evSs (run dfs n) [some (.d (.tup (nD (p ++ rest)))), some (.d (.int (p.length : Int))), none] m b_number_piece) = _
  rw [np_split]
  have ea : ∀ x0 x1 : Option W, evS (run dfs n) [x0, x1, none] m (.asg 2 (.gi "ARABIC" (0))) = .next [x0, x1, some (.d (.int 0))] m := by
    intro x0 x1
    simp [evS, evE]
  cases rest with
  | nil =>
    have hp' : p.length ≤ line := by simpa using hp
    rw [evSs, np_i0 n m p none, SR.then_next, evSs, ea, SR.then_next, evSs, np_j0 n m p _ hp', SR.then_next]
    have := np_nil n m p .arabic hp'
    have e0 : Kh454.readPart [] = none := rfl
    rw [List.append_nil, e0]
    show endS m.length (evSs (run dfs n) [some (.d (.tup (nD p))), some (.d (.int (p.length : Int))), some (.d (.int (shN .arabic)))] m npT) = _
    rw [this]
    simp [endS]
  | cons c r =>
    rw [evSs, np_i1 n m p c r none]
    by_cases h : c = 37
    · subst h
      rw [if_pos rfl, SR.then_ret, rp_37]
      have e : r.length + 1 - r.length = 1 := by omega
      simp [endS, endR, partD, e]
    · rw [if_neg h, SR.then_next, evSs, ea, SR.then_next, evSs, np_j1 n m p c r _ hp, rp_c r h]
      cases hs : Kh454.shapeOf c with
      | none =>
        show endS m.length ((SR.next _ m).then _) = _
        rw [SR.then_next]
        have := np_cons n m p c r .arabic hp
        show endS m.length (evSs (run dfs n) [some (.d (.tup (nD (p ++ c :: r)))), some (.d (.int (p.length : Int))), some (.d (.int (shN .arabic)))] m npT) = _
        rw [this]
        have e : r.length + 1 - r.length = 1 := by omega
        cases Kh454.partOf .arabic c with
        | none => simp [endS]
        | some part => simp [endS, endR, e]
      | some s =>
        show endS m.length ((SR.next _ m).then _) = _
        rw [SR.then_next]
        have eL : p ++ c :: r = (p ++ [c]) ++ r := by simp
        have eI : (p.length : Int) + 1 = ((p ++ [c]).length : Int) := by simp
        rw [eL, eI]
        cases r with
        | nil =>
          rw [List.append_nil]
          rw [np_nil n m (p ++ [c]) s (by simpa using hp)]
          simp [endS]
        | cons d o =>
          rw [np_cons n m (p ++ [c]) d o s (by simpa using hp)]
          have e : o.length + 1 + 1 - o.length = 2 := by omega
          have ez : (Kh454.readPart (c :: d :: o) : Option (Kh454.Part × List Nat)) = (Kh454.partOf s d).map fun part => (part, o) := by rw [rp_c _ h, hs]
          show (_ : Res W) = (match (Kh454.partOf s d).map fun part => (part, o) with | none => Res.exc ⟨1, []⟩ m | some (part, others) => Res.ok (W.d (.tup [partD part, .int ((p.length + ((c :: d :: o).length - others.length) : Nat) : Int)])) m)
          cases Kh454.partOf s d with
          | none => simp [endS]
          | some part =>
            have e2 : (c :: d :: o).length - o.length = 2 := by simp only [List.length_cons]; omega
            simp only [Option.map_some, e2, endS, endR]
            simp
            omega

theorem rp_cut {rest : List Nat} {part : Kh454.Part} {others : List Nat} (h : Kh454.readPart rest = some (part, others)) : ∃ q : List Nat, rest = q ++ others ∧ 0 < q.length ∧ q.length = rest.length - others.length := by
  cases rest with
  | nil => cases h
  | cons c r =>
    by_cases hc : c = 37
    · subst hc
      rw [rp_37] at h
      cases h
      exact ⟨[37], rfl, by simp, by simp⟩
    · rw [rp_c r hc] at h
      cases hs : Kh454.shapeOf c with
      | none =>
        rw [hs] at h
        cases hp : Kh454.partOf .arabic c with
        | none => simp [hp] at h
        | some x =>
          simp [hp] at h
          obtain ⟨_, rfl⟩ := h
          exact ⟨[c], rfl, by simp, by simp⟩
      | some s =>
        rw [hs] at h
        cases r with
        | nil => cases h
        | cons d o =>
          cases hp : Kh454.partOf s d with
          | none => simp [hp] at h
          | some x =>
            simp [hp] at h
            obtain ⟨_, rfl⟩ := h
            exact ⟨[c, d], rfl, by simp, by simp; omega⟩
abbrev pcC : E := .cmp .lt (.var 2) (.b1 .len (.var 0))
abbrev pcB : Ss := (.cons (.if_ (.cmp .eq (.ix (.var 0) (.var 2)) (.gi "PERCENT" (37))) (.cons (.asgT [3, 2] (.call i_number_piece (.cons (.var 0) (.cons (.bin .add (.var 2) (.int (1))) (.nil))))) (.cons (.ex (.app (.var 1) (.var 3))) (.nil))) (.cons (.ex (.app (.var 1) (.tup (.cons (.gi "LITERAL" (-1)) (.cons (.ix (.var 0) (.var 2)) (.nil)))))) (.cons (.asg 2 (.bin .add (.var 2) (.int (1)))) (.nil)))) (.nil))
theorem pc_cond (n : Nat) (m : Mu) (row : List Nat) (at_ : Nat) (x1 x3 : Option W) (hr : row.length ≤ line) : tst (evE (run dfs n) [some (.d (.tup (nD row))), x1, some (.d (.int (at_ : Int))), x3] m pcC) = .ok (decide (at_ < row.length)) m := by
  have hl : row.length ≤ 16777216 := hr
  simp [evE, b1R, items, rd, guardR, nD_len, line, hl, cmpR, ordR, blR, tst]
theorem pc_lit (n : Nat) (m : Mu) (p : List Nat) (c : Nat) (r : List Nat) (acc : List D) (x3 : Option W) (h : c ≠ 37) (ha : acc.length < line) :
    evSs (run dfs (n + 1)) [some (.d (.tup (nD (p ++ c :: r)))), some (.h m.length), some (.d (.int (p.length : Int))), x3] (m ++ [some ⟨.o (.lst acc), []⟩]) pcB =
      .next [some (.d (.tup (nD (p ++ c :: r)))), some (.h m.length), some (.d (.int ((p.length : Int) + 1))), x3] (m ++ [some ⟨.o (.lst (acc ++ [partD (.text [c])])), []⟩]) := by
  have ei := ix_tup (m ++ [some ⟨.o (.lst acc), []⟩]) p c r
  have h' : ¬ (c : Int) = 37 := by omega
  generalize nD (p ++ c :: r) = L at *
  have h2 : 2 ≤ line := by unfold line; omega
  simp [evSs, evS, evE, evEs, ei, tst, cmpR, eq_int, blR, h', isLst, lst_at, appR, appFo, foAt, guardR, ha, h2, setFo, lst_set, allD, partD, binR, addR]
theorem pc_bad (n : Nat) (m : Mu) (p : List Nat) (r : List Nat) (acc : List D) (x3 : Option W) (hp : (p ++ 37 :: r).length ≤ line) (h : Kh454.readPart r = none) :
    ∃ σ, evSs (run dfs (n + 1)) [some (.d (.tup (nD (p ++ 37 :: r)))), some (.h m.length), some (.d (.int (p.length : Int))), x3] (m ++ [some ⟨.o (.lst acc), []⟩]) pcB =
      .exc ⟨1, []⟩ σ (m ++ [some ⟨.o (.lst acc), []⟩]) := by
  have ei := ix_tup (m ++ [some ⟨.o (.lst acc), []⟩]) p 37 r
  have en := r_np n (p ++ [37]) r (m ++ [some ⟨.o (.lst acc), []⟩]) (by simpa using hp)
  rw [h] at en
  have eL : (p ++ [37]) ++ r = p ++ 37 :: r := by simp
  have eI : ((p ++ [37]).length : Int) = (p.length : Int) + 1 := by simp
  rw [eL, eI] at en
  generalize nD (p ++ 37 :: r) = L at *
  exact ⟨_, by simp [evSs, evS, evE, evEs, ei, tst, cmpR, eq_int, blR, binR, addR, en]; rfl⟩
theorem pc_num (n : Nat) (m : Mu) (p : List Nat) (r : List Nat) (acc : List D) (x3 : Option W) (part : Kh454.Part) (others : List Nat) (ha : acc.length < line) (hp : (p ++ 37 :: r).length ≤ line) (h : Kh454.readPart r = some (part, others)) :
    evSs (run dfs (n + 1)) [some (.d (.tup (nD (p ++ 37 :: r)))), some (.h m.length), some (.d (.int (p.length : Int))), x3] (m ++ [some ⟨.o (.lst acc), []⟩]) pcB =
      .next [some (.d (.tup (nD (p ++ 37 :: r)))), some (.h m.length), some (.d (.int ((p.length + 1 + (r.length - others.length) : Nat) : Int))), some (.d (partD part))] (m ++ [some ⟨.o (.lst (acc ++ [partD part])), []⟩]) := by
  have ei := ix_tup (m ++ [some ⟨.o (.lst acc), []⟩]) p 37 r
  have en := r_np n (p ++ [37]) r (m ++ [some ⟨.o (.lst acc), []⟩]) (by simpa using hp)
  rw [h] at en
  have eL : (p ++ [37]) ++ r = p ++ 37 :: r := by simp
  have eI : ((p ++ [37]).length : Int) = (p.length : Int) + 1 := by simp
  have eJ : (p ++ [37]).length = p.length + 1 := by simp
  rw [eL, eI, eJ] at en
  dsimp only at en
  generalize nD (p ++ 37 :: r) = L at *
  generalize partD part = pd at *
  generalize p.length + 1 + (r.length - others.length) = k at *
  simp [evSs, evS, evE, evEs, ei, tst, cmpR, eq_int, blR, binR, addR, en, bindG, isLst, lst_at, appR, appFo, foAt, guardR, ha, setFo, lst_set]
theorem pc_loop (n : Nat) (m : Mu) : ∀ (j : Nat) (p rest : List Nat) (acc : List D) (x3 : Option W) (fuel : Nat), rest.length < j → rest.length + 1 ≤ fuel → (p ++ rest).length < line → acc.length ≤ p.length →
    (match Kh454.parsePatternLoop j rest with
    | some ps => ∃ x2' x3', whGo (fun σ m => tst (evE (run dfs (n + 1)) σ m pcC)) (fun σ m => evSs (run dfs (n + 1)) σ m pcB) fuel [some (.d (.tup (nD (p ++ rest)))), some (.h m.length), some (.d (.int (p.length : Int))), x3] (m ++ [some ⟨.o (.lst acc), []⟩]) =
        .next [some (.d (.tup (nD (p ++ rest)))), some (.h m.length), x2', x3'] (m ++ [some ⟨.o (.lst (acc ++ ps.map partD)), []⟩])
    | none => ∃ σ acc', whGo (fun σ m => tst (evE (run dfs (n + 1)) σ m pcC)) (fun σ m => evSs (run dfs (n + 1)) σ m pcB) fuel [some (.d (.tup (nD (p ++ rest)))), some (.h m.length), some (.d (.int (p.length : Int))), x3] (m ++ [some ⟨.o (.lst acc), []⟩]) =
        .exc ⟨1, []⟩ σ (m ++ [some ⟨.o (.lst acc'), []⟩]))
  | 0, p, rest, acc, x3, fuel, hj, hf, hr, ha => by omega
  | j + 1, p, [], acc, x3, fuel, hj, hf, hr, ha => by
    cases fuel with
    | zero => simp at hf
    | succ fuel =>
      have ec := pc_cond (n + 1) (m ++ [some ⟨.o (.lst acc), []⟩]) (p ++ []) p.length (some (.h m.length)) x3 (by omega)
      show ∃ x2' x3', _
      refine ⟨some (.d (.int (p.length : Int))), x3, ?_⟩
      rw [whGo, ec]
      simp
  | j + 1, p, c :: r, acc, x3, fuel, hj, hf, hr, ha => by
    cases fuel with
    | zero => simp at hf
    | succ fuel =>
      have ec := pc_cond (n + 1) (m ++ [some ⟨.o (.lst acc), []⟩]) (p ++ c :: r) p.length (some (.h m.length)) x3 (by omega)
      have et : decide (p.length < (p ++ c :: r).length) = true := by simp
      rw [et] at ec
      have hacc : acc.length < line := by simp at hr; omega
      by_cases h : c = 37
      · subst h
        have hd : Kh454.parsePatternLoop (j + 1) (37 :: r) = match Kh454.readPart r with
          | none => none
          | some (part, others) => (Kh454.parsePatternLoop j others).map fun p => part :: p := rfl
        rw [hd]
        cases hp : Kh454.readPart r with
        | none =>
          obtain ⟨σ, es⟩ := pc_bad n m p r acc x3 (by omega) hp
          refine ⟨σ, acc, ?_⟩
          rw [whGo, ec, Res.toS_ok, if_pos rfl, es, SR.then_exc]
        | some po =>
          obtain ⟨part, others⟩ := po
          obtain ⟨q, q1, q2, q3⟩ := rp_cut hp
          have es := pc_num n m p r acc x3 part others hacc (by omega) hp
          have hlen : r.length = q.length + others.length := by rw [q1]; simp
          have ih := pc_loop n m j (p ++ 37 :: q) others (acc ++ [partD part]) (some (.d (partD part))) fuel (by simp at hj; omega) (by simp at hf; omega)
            (by rw [List.append_assoc, List.cons_append, ← q1]; exact hr) (by simp; omega)
          have er : (p ++ 37 :: q) ++ others = p ++ 37 :: r := by rw [List.append_assoc, List.cons_append, ← q1]
          have el : ((p.length + 1 + (r.length - others.length) : Nat) : Int) = ((p ++ 37 :: q).length : Int) := by rw [← q3]; simp; omega
          rw [er] at ih
          rw [← el] at ih
          cases hz : Kh454.parsePatternLoop j others with
          | none =>
            rw [hz] at ih
            obtain ⟨σ, acc', ih⟩ := ih
            simp only [hz, Option.map_none]
            refine ⟨σ, acc', ?_⟩
            rw [whGo, ec, Res.toS_ok, if_pos rfl, es, SR.then_next]
            exact ih
          | some ps =>
            rw [hz] at ih
            obtain ⟨y2, y3, ih⟩ := ih
            simp only [hz, Option.map_some]
            refine ⟨y2, y3, ?_⟩
            rw [whGo, ec, Res.toS_ok, if_pos rfl, es, SR.then_next]
            simpa [List.append_assoc] using ih
      · have hd : Kh454.parsePatternLoop (j + 1) (c :: r) = (Kh454.parsePatternLoop j r).map fun p => .text [c] :: p := by
          show (if c = 37 then _ else _) = _
          rw [if_neg h]
        rw [hd]
        have es := pc_lit n m p c r acc x3 h hacc
        have ih := pc_loop n m j (p ++ [c]) r (acc ++ [partD (.text [c])]) x3 fuel (by simp at hj; omega) (by simp at hf; omega)
          (by simpa using hr) (by simp; omega)
        have er : (p ++ [c]) ++ r = p ++ c :: r := by simp
        have el : (p.length : Int) + 1 = ((p ++ [c]).length : Int) := by simp
        rw [er, ← el] at ih
        cases hz : Kh454.parsePatternLoop j r with
        | none =>
          rw [hz] at ih
          obtain ⟨σ, acc', ih⟩ := ih
          simp only [hz, Option.map_none]
          refine ⟨σ, acc', ?_⟩
          rw [whGo, ec, Res.toS_ok, if_pos rfl, es, SR.then_next]
          exact ih
        | some ps =>
          rw [hz] at ih
          obtain ⟨y2, y3, ih⟩ := ih
          simp only [hz, Option.map_some]
          refine ⟨y2, y3, ?_⟩
          rw [whGo, ec, Res.toS_ok, if_pos rfl, es, SR.then_next]
          simpa [List.append_assoc] using ih
theorem r_pieces (n : Nat) (t : List Nat) (m : Mu) (hr : t.length < 999999) : run dfs (n + 2) i_pieces_of [.d (.tup (nD t))] m = (match Kh454.parsePattern t with | none => .exc ⟨1, []⟩ m | some ps => .ok (.d (.lst (ps.map partD))) m) := by
  rw [run_at (d := f_pieces_of) rfl]
  have lp := pc_loop n m (t.length + 1) [] t [] none turns (Nat.lt_succ_self _) (by unfold turns; omega) (by unfold line; simp; omega) (Nat.le_refl _)
  show endS m.length (evSs (run dfs (n + 1)) [some (.d (.tup (nD t))), none, none, none] m b_pieces_of) = _
  unfold b_pieces_of
  have e1 : evS (run dfs (n + 1)) [some (.d (.tup (nD t))), none, none, none] m (.asg 1 (.lstM .nil)) = .next [some (.d (.tup (nD t))), some (.h m.length), none, none] (m ++ [some ⟨.o (.lst []), []⟩]) := by
    simp [evS, evE, evEs, allD, guardR, newR]
  have e2 : evS (run dfs (n + 1)) [some (.d (.tup (nD t))), some (.h m.length), none, none] (m ++ [some ⟨.o (.lst []), []⟩]) (.asg 2 (.int 0)) = .next [some (.d (.tup (nD t))), some (.h m.length), some (.d (.int (([] : List Nat).length : Int))), none] (m ++ [some ⟨.o (.lst []), []⟩]) := by
    simp [evS, evE]
  rw [evSs, e1, SR.then_next, evSs, e2, SR.then_next, evSs, evS]
  unfold Kh454.parsePattern
  simp only [List.nil_append] at lp
  cases hz : Kh454.parsePatternLoop (t.length + 1) t with
  | none =>
    rw [hz] at lp
    obtain ⟨σ, acc', lp⟩ := lp
    rw [lp, SR.then_exc]
    simp [endS]
  | some cs =>
    rw [hz] at lp
    obtain ⟨x2, x3, lp⟩ := lp
    rw [lp, SR.then_next, ev_ret]
    simp [evE, fzR, grAt, Gr.data, Fo.data, endS, endR]

/-- what the parts of a pattern that was read are like -/
def okPart : Kh454.Part → Prop
  | .text t => ∃ c, t = [c]
  | .level _ n => 1 ≤ n ∧ n ≤ 6
  | .counter _ => True
theorem partOf_ok {s : Kh454.Shape} {c : Nat} {part : Kh454.Part} (h : Kh454.partOf s c = some part) : okPart part := by
  unfold Kh454.partOf at h
  split at h
  · cases h; show 1 ≤ c - 48 ∧ c - 48 ≤ 6; omega
  · split at h
    · cases h; trivial
    · cases h
theorem rp_ok {rest : List Nat} {part : Kh454.Part} {others : List Nat} (h : Kh454.readPart rest = some (part, others)) : okPart part := by
  cases rest with
  | nil => cases h
  | cons c r =>
    by_cases hc : c = 37
    · subst hc
      rw [rp_37] at h
      cases h
      exact ⟨37, rfl⟩
    · rw [rp_c r hc] at h
      cases hs : Kh454.shapeOf c with
      | none =>
        rw [hs] at h
        cases hp : Kh454.partOf .arabic c with
        | none => simp [hp] at h
        | some x =>
          simp [hp] at h
          obtain ⟨rfl, _⟩ := h
          exact partOf_ok hp
      | some s =>
        rw [hs] at h
        cases r with
        | nil => cases h
        | cons d o =>
          cases hp : Kh454.partOf s d with
          | none => simp [hp] at h
          | some x =>
            simp [hp] at h
            obtain ⟨rfl, _⟩ := h
            exact partOf_ok hp
theorem ppl_ok : ∀ (j : Nat) (t : List Nat) (ps : Kh454.Pattern), Kh454.parsePatternLoop j t = some ps → (∀ p ∈ ps, okPart p) ∧ ps.length ≤ t.length
  | 0, t, ps, h => by cases h
  | j + 1, [], ps, h => by cases h; exact ⟨by simp, Nat.le_refl _⟩
  | j + 1, c :: r, ps, h => by
    by_cases hc : c = 37
    · subst hc
      have hd : Kh454.parsePatternLoop (j + 1) (37 :: r) = match Kh454.readPart r with
        | none => none
        | some (part, others) => (Kh454.parsePatternLoop j others).map fun p => part :: p := rfl
      rw [hd] at h
      cases hp : Kh454.readPart r with
      | none => rw [hp] at h; cases h
      | some po =>
        obtain ⟨part, others⟩ := po
        rw [hp] at h
        dsimp only at h
        cases hz : Kh454.parsePatternLoop j others with
        | none => rw [hz] at h; cases h
        | some qs =>
          rw [hz] at h
          cases h
          obtain ⟨i1, i2⟩ := ppl_ok j others qs hz
          obtain ⟨q, q1, q2, q3⟩ := rp_cut hp
          refine ⟨fun x hx => ?_, ?_⟩
          · rcases List.mem_cons.mp hx with rfl | hx
            · exact rp_ok hp
            · exact i1 x hx
          · have : r.length = q.length + others.length := by rw [q1]; simp
            simp
            omega
    · have hd : Kh454.parsePatternLoop (j + 1) (c :: r) = (Kh454.parsePatternLoop j r).map fun p => .text [c] :: p := by
        show (if c = 37 then _ else _) = _
        rw [if_neg hc]
      rw [hd] at h
      cases hz : Kh454.parsePatternLoop j r with
      | none => rw [hz] at h; cases h
      | some qs =>
        rw [hz] at h
        cases h
        obtain ⟨i1, i2⟩ := ppl_ok j r qs hz
        refine ⟨fun x hx => ?_, ?_⟩
        · rcases List.mem_cons.mp hx with rfl | hx
          · exact ⟨c, rfl⟩
          · exact i1 x hx
        · simp; omega
end UT
end Cn

namespace Cn
namespace UT
theorem r_check_t (n : Nat) (w u : W) (m : Mu) : run dfs (n + 1) i_check_place [.d (.bl true), w, u] m = .ok (.d .non) m := by
  rw [run_at (d := f_check_place) rfl]
  simp [runD, f_check_place, b_check_place, start, evSs, evS, evE, tst, endS]
theorem r_check_f (n : Nat) (i j : Int) (m : Mu) : run dfs (n + 1) i_check_place [.d (.bl false), .d (.int i), .d (.int j)] m = .exc ⟨0, [i, j]⟩ m := by
  rw [run_at (d := f_check_place) rfl]
  simp [runD, f_check_place, b_check_place, start, evSs, evS, evE, evEs, tst, endS, intF]
theorem r_check (n : Nat) (b : Bool) (i j : Int) (m : Mu) : run dfs (n + 1) i_check_place [.d (.bl b), .d (.int i), .d (.int j)] m = if b then .ok (.d .non) m else .exc ⟨0, [i, j]⟩ m := by
  cases b
  · exact r_check_f n i j m
  · exact r_check_t n _ _ m
theorem r_is_figure (n b : Nat) (m : Mu) : run dfs (n + 1) i_is_figure [.d (.int b)] m = .ok (.d (.bl (Kh450.isDigit b))) m := by
  rw [run_at (d := f_is_figure) rfl]
  by_cases h1 : (48 : Int) ≤ b <;> by_cases h2 : (b : Int) ≤ 57 <;>
  (have e : Kh450.isDigit b = (decide ((48 : Int) ≤ b) && decide ((b : Int) ≤ 57)) := by
    unfold Kh450.isDigit
    congr 1 <;> (rw [decide_eq_decide]; omega)
   simp [runD, f_is_figure, b_is_figure, start, evSs, evS, evE, evEs, cmpR, ordR, blR, h1, h2, endS, endR, e])
theorem r_is_small (n b : Nat) (m : Mu) : run dfs (n + 1) i_is_small [.d (.int b)] m = .ok (.d (.bl (Kh450.isLower b))) m := by
  rw [run_at (d := f_is_small) rfl]
  by_cases h1 : (97 : Int) ≤ b <;> by_cases h2 : (b : Int) ≤ 122 <;>
  (have e : Kh450.isLower b = (decide ((97 : Int) ≤ b) && decide ((b : Int) ≤ 122)) := by
    unfold Kh450.isLower
    congr 1 <;> (rw [decide_eq_decide]; omega)
   simp [runD, f_is_small, b_is_small, start, evSs, evS, evE, evEs, cmpR, ordR, blR, h1, h2, endS, endR, e])
def hexW (b : Nat) : Int := if Kh450.isDigit b then (b : Int) - 48 else if 97 ≤ b ∧ b ≤ 102 then (b : Int) - 87 else -1
theorem r_hex_worth (n b : Nat) (m : Mu) : run dfs (n + 2) i_hex_worth [.d (.int b)] m = .ok (.d (.int (hexW b))) m := by
  rw [run_at (d := f_hex_worth) rfl]
  have e := r_is_figure n b m
  unfold hexW
  cases hd : Kh450.isDigit b with
  | true =>
    rw [hd] at e
    simp [runD, f_hex_worth, b_hex_worth, start, evSs, evS, evE, evEs, e, tst, binR, subR, endS, endR]
  | false =>
    rw [hd] at e
    by_cases h1 : (97 : Int) ≤ b <;> by_cases h2 : (b : Int) ≤ 102
    · have h3 : 97 ≤ b ∧ b ≤ 102 := by omega
      simp [runD, f_hex_worth, b_hex_worth, start, evSs, evS, evE, evEs, e, tst, cmpR, ordR, blR, h1, h2, h3, binR, subR, endS, endR]
    · have h3 : ¬ (97 ≤ b ∧ b ≤ 102) := by omega
      rw [if_neg h3]
      simp [runD, f_hex_worth, b_hex_worth, start, evSs, evS, evE, evEs, e, tst, cmpR, ordR, blR, h1, h2, binR, subR, endS, endR]
    · have h3 : ¬ (97 ≤ b ∧ b ≤ 102) := by omega
      rw [if_neg h3]
      simp [runD, f_hex_worth, b_hex_worth, start, evSs, evS, evE, evEs, e, tst, cmpR, ordR, blR, h1, h2, binR, subR, endS, endR]
    · have h3 : ¬ (97 ≤ b ∧ b ≤ 102) := by omega
      rw [if_neg h3]
      simp [runD, f_hex_worth, b_hex_worth, start, evSs, evS, evE, evEs, e, tst, cmpR, ordR, blR, h1, h2, binR, subR, endS, endR]
theorem or2_bl {C : Calls} {σ : Sl} {m : Mu} {a b : E} {x : Bool} (h : evE C σ m a = .ok (.d (.bl x)) m) : evE C σ m (.or2 a b) = if x then .ok (.d (.bl true)) m else evE C σ m b := by
  simp only [evE, h, Res.bind_ok]
  cases x <;> rfl
theorem ch_int {C : Calls} {σ : Sl} {m : Mu} {a b c : E} {i j k : Int} (ha : evE C σ m a = .ok (.d (.int i)) m) (hb : evE C σ m b = .ok (.d (.int j)) m) (hc : evE C σ m c = .ok (.d (.int k)) m) : evE C σ m (.ch .le .le a b c) = .ok (.d (.bl (decide (i ≤ j) && decide (j ≤ k)))) m := by
  simp only [evE, ha, hb, Res.bind_ok, cmpR, ordR, hc, blR]
  by_cases h : i ≤ j <;> simp [h]
theorem r_is_label_sign (n c : Nat) (m : Mu) : run dfs (n + 1) i_is_label_sign [.d (.int c)] m = .ok (.d (.bl (Kh450.isLabelPart c))) m := by
  rw [run_at (d := f_is_label_sign) rfl]
  show endS m.length (evSs (run dfs n) [some (.d (.int c))] m b_is_label_sign) = _
  have hv : evE (run dfs n) [some (.d (.int c))] m (.var 0) = .ok (.d (.int c)) m := by simp [evE]
  have hi : ∀ i, evE (run dfs n) [some (.d (.int c))] m (.int i) = .ok (.d (.int i)) m := fun i => by simp [evE]
  have e1 := ch_int (hi 48) hv (hi 57)
  have e2 := ch_int (hi 65) hv (hi 90)
  have e3 := ch_int (hi 97) hv (hi 122)
  have e4 : evE (run dfs n) [some (.d (.int c))] m (.cmp .in_ (.var 0) (.gt "LABEL_SIGNS" t_LABEL_SIGNS)) = .ok (.d (.bl (c == 45 || c == 95 || c == 46 || c == 58))) m := by
    have q : ((45 : Int) == c || ((95 : Int) == c || ((46 : Int) == c || (58 : Int) == c))) = (c == 45 || c == 95 || c == 46 || c == 58) := by
      have q1 : ((45 : Int) == c) = (c == 45) := by rw [Bool.eq_iff_iff]; simp; omega
      have q2 : ((95 : Int) == c) = (c == 95) := by rw [Bool.eq_iff_iff]; simp; omega
      have q3 : ((46 : Int) == c) = (c == 46) := by rw [Bool.eq_iff_iff]; simp; omega
      have q4 : ((58 : Int) == c) = (c == 58) := by rw [Bool.eq_iff_iff]; simp; omega
      rw [q1, q2, q3, q4, Bool.or_assoc, Bool.or_assoc]
    simp [evE, cmpR, inR, dicOf, foAt, inSeq, rd, t_LABEL_SIGNS, D.plain, D.plains, D.depth, D.depths, D.eqv, guardR, blR]
    simpa using q
  unfold b_is_label_sign
  rw [ev_ret, or2_bl e1, or2_bl e2, or2_bl e3, e4]
  have d1 : Kh450.isDigit c = (decide ((48 : Int) ≤ c) && decide ((c : Int) ≤ 57)) := by
    unfold Kh450.isDigit
    congr 1 <;> (rw [decide_eq_decide]; omega)
  have d2 : Kh450.isUpper c = (decide ((65 : Int) ≤ c) && decide ((c : Int) ≤ 90)) := by
    unfold Kh450.isUpper
    congr 1 <;> (rw [decide_eq_decide]; omega)
  have d3 : Kh450.isLower c = (decide ((97 : Int) ≤ c) && decide ((c : Int) ≤ 122)) := by
    unfold Kh450.isLower
    congr 1 <;> (rw [decide_eq_decide]; omega)
  have hl : Kh450.isLabelPart c = (Kh450.isDigit c || (Kh450.isUpper c || (Kh450.isLower c || (c == 45 || c == 95 || c == 46 || c == 58)))) := by
    unfold Kh450.isLabelPart
    cases Kh450.isDigit c <;> cases Kh450.isUpper c <;> cases Kh450.isLower c <;> cases (c == 45) <;> cases (c == 95) <;> cases (c == 46) <;> cases (c == 58) <;> rfl
  rw [← d1, ← d2, ← d3, hl]
  cases Kh450.isDigit c <;> cases Kh450.isUpper c <;> cases Kh450.isLower c <;> simp [endS, endR]
theorem blDs_map (l : List Bool) : blDs (l.map .bl) = some l := by
  induction l with
  | nil => rfl
  | cons a r ih => simp [blDs, blD, ih]
theorem blDs_map' (f : Nat → Bool) (l : List Nat) : blDs (l.map fun x => D.bl (f x)) = some (l.map f) := by
  have := blDs_map (l.map f)
  rwa [List.map_map] at this
theorem r_is_label (n : Nat) (t : List Nat) (m : Mu) (h : t.length ≤ line) : run dfs (n + 2) i_is_label [.d (.tup (nD t))] m = .ok (.d (.bl (Kh450.isLabel t))) m := by
  rw [run_at (d := f_is_label) rfl]
  show endS m.length (evSs (run dfs (n + 1)) [some (.d (.tup (nD t))), none] m b_is_label) = _
  have hl : t.length ≤ 16777216 := h
  unfold b_is_label
  have e1 : evE (run dfs (n + 1)) [some (.d (.tup (nD t))), none] m (.ch .le .le (.int 1) (.b1 .len (.var 0)) (.gi "MOST_LABEL" 40)) = .ok (.d (.bl (decide ((1 : Int) ≤ t.length) && decide ((t.length : Int) ≤ 40)))) m :=
    ch_int (by simp [evE]) (by simp [evE, b1R, items, guardR, nD_len, line, hl]) (by simp [evE])
  have hlen : Kh450.isLabel t = (decide ((1 : Int) ≤ t.length) && decide ((t.length : Int) ≤ 40) && t.all Kh450.isLabelPart) := by
    unfold Kh450.isLabel
    congr 1
    congr 1
    · cases t <;> simp
      omega
    · rw [decide_eq_decide]; omega
  rw [ev_ret, hlen]
  have e2 : evE (run dfs (n + 1)) [some (.d (.tup (nD t))), none] m (.b1 .all (.lc (.n 1) (.var 0) (.bl true) (.call i_is_label_sign (.cons (.var 1) .nil)))) = .ok (.d (.bl (t.all Kh450.isLabelPart))) m := by
    rw [ev_b1, ev_lc (us := (nD t).map .d) (f := fun w => match w with | .d (.int i) => .bl (Kh450.isLabelPart i.toNat) | _ => .non)]
    · have e : ((nD t).map W.d).map (fun w => match w with | .d (.int i) => D.bl (Kh450.isLabelPart i.toNat) | _ => .non) = (t.map Kh450.isLabelPart).map .bl := by
        simp [nD, Function.comp_def]
      rw [e]
      simp [b1R, rd, blDs_map', Function.comp_def]
    · simp [evE, itemsD]
    · intro x hx
      simp only [nD, List.map_map] at hx
      obtain ⟨c, _, rfl⟩ := List.mem_map.mp hx
      have q := r_is_label_sign n c m
      exact ⟨_, rfl, by simp [evE], by simp [evE, evEs, wipeS, tgs, q]⟩
    · simpa [nD] using h
  cases hb : (decide ((1 : Int) ≤ t.length) && decide ((t.length : Int) ≤ 40)) with
  | false =>
    rw [hb] at e1
    rw [evE, e1]
    simp [endS, endR]
  | true =>
    rw [hb] at e1
    rw [evE, e1]
    simp only [Res.bind_ok]
    rw [e2]
    simp [endS, endR]
end UT
end Cn

namespace Cn
namespace UT
/-- the source: its row, its place -/
abbrev src (row : List Nat) (i : Nat) : Option Gr := some ⟨.ins 0 [.d (.lst (nD row)), .d (.int (i : Int))], []⟩
theorem set_same {α : Type} {l : List α} {k : Nat} {x : α} (h : l[k]? = some x) : l.set k x = l := by
  apply List.ext_getElem?
  intro j
  by_cases e : k = j
  · subst e; rw [List.getElem?_set_self (List.getElem?_eq_some_iff.mp h).1, h]
  · rw [List.getElem?_set_ne e]
theorem set_at {α : Type} {l : List α} {k : Nat} {x y : α} (h : l[k]? = some x) : (l.set k y)[k]? = some y := List.getElem?_set_self (List.getElem?_eq_some_iff.mp h).1
section
variable {C : Calls} {σ : Sl} {m : Mu} {k v : Nat} {row : List Nat} {i : Nat}
theorem g_at (hk : m[k]? = some (src row i)) : grAt m k = some ⟨.ins 0 [.d (.lst (nD row)), .d (.int (i : Int))], []⟩ := by
  unfold grAt; rw [hk]
theorem r_at (hk : m[k]? = some (src row i)) : rootAt m k = some (.ins 0 [.d (.lst (nD row)), .d (.int (i : Int))]) := by
  unfold rootAt; rw [g_at hk]
theorem p_row (hk : m[k]? = some (src row i)) : atR m 0 0 (.h k) = .ok (.d (.lst (nD row))) m := by
  simp only [atR, r_at hk]; rfl
theorem p_at (hk : m[k]? = some (src row i)) : atR m 0 1 (.h k) = .ok (.d (.int (i : Int))) m := by
  simp only [atR, r_at hk]; rfl
theorem p_cls (hk : m[k]? = some (src row i)) : clsR m (.h k) = some 0 := by
  simp only [clsR, r_at hk]
theorem p_sta (hk : m[k]? = some (src row i)) (j : Nat) : sta m 0 1 (.h k) (.d (.int (j : Int))) = .ok () (m.set k (src row j)) := by
  simp only [sta, r_at hk, adopt, Res.bind_ok, setRoot, g_at hk]; rfl
theorem e_row (hv : σ[v]? = some (some (.h k))) (hk : m[k]? = some (src row i)) : evE C σ m (.at 0 0 (.var v)) = .ok (.d (.lst (nD row))) m := by
  simp only [evE, hv, Res.bind_ok, p_row hk]
theorem e_at (hv : σ[v]? = some (some (.h k))) (hk : m[k]? = some (src row i)) : evE C σ m (.at 0 1 (.var v)) = .ok (.d (.int (i : Int))) m := by
  simp only [evE, hv, Res.bind_ok, p_at hk]
theorem e_byte {p r : List Nat} {b : Nat} (hv : σ[v]? = some (some (.h k))) (hk : m[k]? = some (src (p ++ b :: r) p.length)) : evE C σ m (.ix (.at 0 0 (.var v)) (.at 0 1 (.var v))) = .ok (.d (.int (b : Int))) m := by
  rw [evE, e_row hv hk, Res.bind_ok, e_at hv hk, Res.bind_ok]
  exact ix_row m p b r
theorem s_aug {e : E} {j : Nat} (hv : σ[v]? = some (some (.h k))) (hk : m[k]? = some (src row i)) (he : evE C σ m e = .ok (.d (.int (j : Int))) m) : evS C σ m (.auga 0 1 .add (.var v) e) = .next σ (m.set k (src row (i + j))) := by
  have hv' : evE C σ m (.var v) = .ok (.h k) m := by simp only [evE, hv]
  have e1 : ((i : Int) + (j : Int)) = ((i + j : Nat) : Int) := by omega
  simp only [evS, hv', Res.toS_ok, p_at hk, he, augR, e1, p_sta hk]
theorem s_aug1 (hv : σ[v]? = some (some (.h k))) (hk : m[k]? = some (src row i)) : evS C σ m (.auga 0 1 .add (.var v) (.int 1)) = .next σ (m.set k (src row (i + 1))) :=
  s_aug (j := 1) hv hk (by simp only [evE]; rfl)
theorem e_meth {f : Nat} {es : Es} (hv : σ[v]? = some (some (.h k))) (hk : m[k]? = some (src row i)) : evE C σ m (.meth 0 f (.var v) es) = (evEs C σ m es).bind fun ws m => C f (.h k :: ws) m := by
  simp only [evE, hv, Res.bind_ok, p_cls hk]
  rfl
theorem e_meth0 {f : Nat} (hv : σ[v]? = some (some (.h k))) (hk : m[k]? = some (src row i)) : evE C σ m (.meth 0 f (.var v) .nil) = C f [.h k] m := by
  rw [e_meth hv hk]; simp only [evEs, Res.bind_ok]
theorem evSs_cons {s : S} {r : Ss} : evSs C σ m (.cons s r) = (evS C σ m s).then fun σ m => evSs C σ m r := by simp only [evSs]
theorem evSs_nil : evSs C σ m .nil = .next σ m := by simp only [evSs]
theorem whGo_s (c : Sl → Mu → Res Bool) (b : Sl → Mu → SR) (f : Nat) (σ : Sl) (m : Mu) : whGo c b (f + 1) σ m = (c σ m).toS σ fun t m1 => if t then (b σ m1).then fun σ2 m2 => whGo c b f σ2 m2 else .next σ m1 := rfl
theorem tst_ok (b : Bool) (m : Mu) : tst (.ok (.d (.bl b)) m) = .ok b m := rfl
theorem wh_go {c : Sl → Mu → Res Bool} {b : Sl → Mu → SR} {f : Nat} {σ : Sl} {m m1 : Mu} (h : c σ m = .ok true m1) : whGo c b (f + 1) σ m = (b σ m1).then fun σ2 m2 => whGo c b f σ2 m2 := by
  rw [whGo_s, h, Res.toS_ok, if_pos rfl]
theorem wh_stop {c : Sl → Mu → Res Bool} {b : Sl → Mu → SR} {f : Nat} {σ : Sl} {m m1 : Mu} (h : c σ m = .ok false m1) : whGo c b (f + 1) σ m = .next σ m1 := by
  rw [whGo_s, h, Res.toS_ok]; rfl
theorem e_len {l : List Nat} {e : E} (he : evE C σ m e = .ok (.d (.lst (nD l))) m) (hl : l.length ≤ line) : evE C σ m (.b1 .len e) = .ok (.d (.int (l.length : Int))) m := by
  rw [ev_b1, he, Res.bind_ok]
  simp [b1R, items, rd, guardR, nD_len, hl]
end
theorem take_set (m : Mu) (k : Nat) (x : Option Gr) : (m.set k x).take m.length = m.set k x := List.take_of_length_le (by simp)
theorem r_is_over (n : Nat) {m : Mu} {k : Nat} {row : List Nat} {i : Nat} (hk : m[k]? = some (src row i)) (hl : row.length ≤ line) : run dfs (n + 1) i_Source_is_over [.h k] m = .ok (.d (.bl (decide (row.length ≤ i)))) m := by
  rw [run_at (d := f_Source_is_over) rfl]
  show endS m.length (evSs (run dfs n) [some (.h k)] m b_Source_is_over) = _
  unfold b_Source_is_over
  have h1 := e_row (C := run dfs n) (σ := [some (.h k)]) (v := 0) rfl hk
  have h2 := e_at (C := run dfs n) (σ := [some (.h k)]) (v := 0) rfl hk
  rw [ev_ret, evE, h2, Res.bind_ok, e_len h1 hl, Res.bind_ok]
  simp [cmpR, ordR, blR, endS, endR]
section
variable {σ : Sl} {m : Mu} {k v : Nat} {row : List Nat} {i : Nat}
theorem e_more (n : Nat) (hv : σ[v]? = some (some (.h k))) (hk : m[k]? = some (src row i)) (hl : row.length ≤ line) : evE (run dfs (n + 1)) σ m (.not (.meth 0 i_Source_is_over (.var v) .nil)) = .ok (.d (.bl (decide (i < row.length)))) m := by
  rw [evE, e_meth0 hv hk, r_is_over n hk hl, Res.bind_ok]
  congr 3
  by_cases h : row.length ≤ i
  · have : ¬ i < row.length := by omega
    simp [h, this]
  · have : i < row.length := by omega
    simp [h, this]
theorem e_more1 (n : Nat) {p r : List Nat} {b : Nat} (hv : σ[v]? = some (some (.h k))) (hk : m[k]? = some (src (p ++ b :: r) p.length)) (hl : (p ++ b :: r).length ≤ line) : evE (run dfs (n + 1)) σ m (.not (.meth 0 i_Source_is_over (.var v) .nil)) = .ok (.d (.bl true)) m := by
  rw [e_more n hv hk hl]; simp
theorem e_more0 (n : Nat) {p : List Nat} (hv : σ[v]? = some (some (.h k))) (hk : m[k]? = some (src p p.length)) (hl : p.length ≤ line) : evE (run dfs (n + 1)) σ m (.not (.meth 0 i_Source_is_over (.var v) .nil)) = .ok (.d (.bl false)) m := by
  rw [e_more n hv hk hl]; simp
end
/-- behind a remark: the line feed that ends it -/
def dropC : List Nat → List Nat
  | [] => []
  | b :: r => if b = 10 then b :: r else dropC r
theorem dropC_len : ∀ r : List Nat, (dropC r).length ≤ r.length
  | [] => Nat.le_refl _
  | b :: r => by
    unfold dropC
    split
    · exact Nat.le_refl _
    · have := dropC_len r; simp; omega
theorem dropC_suf : ∀ r : List Nat, ∃ q, r = q ++ dropC r
  | [] => ⟨[], rfl⟩
  | b :: r => by
    unfold dropC
    split
    · exact ⟨[], rfl⟩
    · obtain ⟨q, e⟩ := dropC_suf r
      exact ⟨b :: q, by rw [List.cons_append, ← e]⟩
abbrev prC : E := .and2 (.not (.meth 0 i_Source_is_over (.var 0) (.nil))) (.cmp .ne (.ix (.at 0 0 (.var 0)) (.at 0 1 (.var 0))) (.gi "LINE_END" (10)))
abbrev prB : Ss := .cons (.auga 0 1 .add (.var 0) (.int (1))) (.nil)
theorem ne_int (m : Mu) (i j : Int) : cmpR m .ne (.d (.int i)) (.d (.int j)) = .ok (!decide (i = j)) m := by
  simp only [cmpR, eq_int, notR]
theorem pr_loop (n : Nat) (k : Nat) : ∀ (rest p : List Nat) (m : Mu) (fuel : Nat), m[k]? = some (src (p ++ rest) p.length) → (p ++ rest).length ≤ line → rest.length < fuel →
    whGo (fun σ m => tst (evE (run dfs (n + 1)) σ m prC)) (fun σ m => evSs (run dfs (n + 1)) σ m prB) fuel [some (.h k)] m = .next [some (.h k)] (m.set k (src (p ++ rest) ((p ++ rest).length - (dropC rest).length)))
  | [], p, m, fuel, hk, hl, hf => by
    obtain ⟨f, rfl⟩ : ∃ f, fuel = f + 1 := ⟨fuel - 1, by simp at hf; omega⟩
    have hk' : m[k]? = some (src p p.length) := by simpa using hk
    have e := e_more0 (σ := [some (.h k)]) (v := 0) n rfl hk' (by simpa using hl)
    have e2 : evE (run dfs (n + 1)) [some (.h k)] m prC = .ok (.d (.bl false)) m := by
      rw [evE, e]; rfl
    rw [wh_stop (by rw [e2]; exact tst_ok false m)]
    have : (p ++ []).length - (dropC []).length = p.length := by simp [dropC]
    rw [this, set_same hk]
  | b :: r, p, m, fuel, hk, hl, hf => by
    obtain ⟨f, rfl⟩ : ∃ f, fuel = f + 1 := ⟨fuel - 1, by simp at hf; omega⟩
    have e := e_more1 (σ := [some (.h k)]) (v := 0) n rfl hk hl
    have e1 := e_byte (C := run dfs (n + 1)) (σ := [some (.h k)]) (v := 0) rfl hk
    have e2 : evE (run dfs (n + 1)) [some (.h k)] m prC = .ok (.d (.bl (!decide ((b : Int) = 10)))) m := by
      rw [evE, e, Res.bind_ok]
      show evE (run dfs (n + 1)) [some (.h k)] m (.cmp .ne _ _) = _
      rw [evE, e1, Res.bind_ok, evE, Res.bind_ok, ne_int]
      rfl
    by_cases h : b = 10
    · subst h
      rw [wh_stop (by rw [e2]; exact tst_ok _ m)]
      have : dropC (10 :: r) = 10 :: r := rfl
      have e3 : (p ++ 10 :: r).length - (dropC (10 :: r)).length = p.length := by rw [this]; simp
      rw [e3, set_same hk]
    · have h' : ¬ (b : Int) = 10 := by omega
      have hd : dropC (b :: r) = dropC r := by
        show (if b = 10 then _ else _) = _
        rw [if_neg h]
      have s1 := s_aug1 (C := run dfs (n + 1)) (σ := [some (.h k)]) (v := 0) rfl hk
      have eL : p ++ b :: r = (p ++ [b]) ++ r := by simp
      have hk2 : (m.set k (src (p ++ b :: r) (p.length + 1)))[k]? = some (src ((p ++ [b]) ++ r) (p ++ [b]).length) := by
        rw [set_at hk, eL]; simp
      have ih := pr_loop n k r (p ++ [b]) _ f hk2 (by simpa using hl) (by simp at hf; omega)
      rw [wh_go (m1 := m) (by rw [e2]; simp only [h', decide_false, Bool.not_false]; exact tst_ok true m)]
      rw [evSs_cons, s1, SR.then_next, evSs_nil, SR.then_next, ih, List.set_set, hd, ← eL]
theorem r_pass_remark (n : Nat) {m : Mu} {k : Nat} {p rest : List Nat} (hk : m[k]? = some (src (p ++ rest) p.length)) (hl : (p ++ rest).length < 999999) : run dfs (n + 2) i_Source_pass_remark [.h k] m = .ok (.d .non) (m.set k (src (p ++ rest) ((p ++ rest).length - (dropC rest).length))) := by
  rw [run_at (d := f_Source_pass_remark) rfl]
  show endS m.length (evSs (run dfs (n + 1)) [some (.h k)] m b_Source_pass_remark) = _
  have lp := pr_loop n k rest p m turns hk (by unfold line; omega) (by unfold turns; simp at hl; omega)
  unfold b_Source_pass_remark
  rw [evSs_cons, evS, lp, SR.then_next, evSs_nil]
  simp only [endS, take_set]
end UT
end Cn

namespace Cn
namespace UT
theorem tw_app (P : Nat → Bool) : ∀ l : List Nat, (Kh450.takeWhile P l).1 ++ (Kh450.takeWhile P l).2 = l
  | [] => rfl
  | b :: r => by
    have ih := tw_app P r
    unfold Kh450.takeWhile
    cases h : P b with
    | true => simp [ih]
    | false => simp
theorem tw_t {P : Nat → Bool} {b : Nat} {r : List Nat} (h : P b = true) : Kh450.takeWhile P (b :: r) = (b :: (Kh450.takeWhile P r).1, (Kh450.takeWhile P r).2) := by
  show (if P b = true then _ else _) = _
  rw [if_pos h]
theorem tw_f {P : Nat → Bool} {b : Nat} {r : List Nat} (h : P b = false) : Kh450.takeWhile P (b :: r) = ([], b :: r) := by
  show (if P b = true then _ else _) = _
  rw [h]; rfl
theorem tw_all (P : Nat → Bool) : ∀ l : List Nat, ∀ x ∈ (Kh450.takeWhile P l).1, P x = true
  | [] => by intro x hx; cases hx
  | b :: r => by
    intro x hx
    cases h : P b with
    | true =>
      rw [tw_t h] at hx
      rcases List.mem_cons.mp hx with rfl | hx
      · exact h
      · exact tw_all P r x hx
    | false => rw [tw_f h] at hx; cases hx
section
variable {C : Calls} {σ : Sl} {m : Mu}
theorem e_bin {o : Bo} {a b : E} {x y : W} (ha : evE C σ m a = .ok x m) (hb : evE C σ m b = .ok y m) : evE C σ m (.bin o a b) = binR m o x y := by
  rw [evE, ha, Res.bind_ok, hb, Res.bind_ok]
theorem e_int (i : Int) : evE C σ m (.int i) = .ok (.d (.int i)) m := by simp only [evE]
theorem e_gi (x : String) (i : Int) : evE C σ m (.gi x i) = .ok (.d (.int i)) m := by simp only [evE]
theorem e_var {v : Nat} {w : W} (h : σ[v]? = some (some w)) : evE C σ m (.var v) = .ok w m := by simp only [evE, h]
theorem mul_small {i : Int} (j : Int) (h : -(2 ^ 64) < i ∧ i < 2 ^ 64) : binR m .mul (.d (.int i)) (.d (.int j)) = .ok (.d (.int (i * j))) m := by
  show guardR _ _ = _
  rw [guardR_of]
  obtain ⟨h1, h2⟩ := h
  rw [Bool.and_eq_true, decide_eq_true_eq, decide_eq_true_eq]
  exact ⟨h1, h2⟩
theorem add_int' (i j : Int) : binR m .add (.d (.int i)) (.d (.int j)) = .ok (.d (.int (i + j))) m := rfl
theorem sub_int' (i j : Int) : binR m .sub (.d (.int i)) (.d (.int j)) = .ok (.d (.int (i - j))) m := rfl
theorem e_call1 {f : Nat} {a : E} {x : W} (ha : evE C σ m a = .ok x m) : evE C σ m (.call f (.cons a .nil)) = C f [x] m := by
  rw [evE, evEs, ha, Res.bind_ok, evEs, Res.bind_ok, Res.bind_ok]
theorem e_call3 {f : Nat} {a b c : E} {x y z : W} (ha : evE C σ m a = .ok x m) (hb : evE C σ m b = .ok y m) (hc : evE C σ m c = .ok z m) : evE C σ m (.call f (.cons a (.cons b (.cons c .nil)))) = C f [x, y, z] m := by
  simp only [evE, evEs, ha, hb, hc, Res.bind_ok]
theorem e_call2 {f : Nat} {a b : E} {x y : W} (ha : evE C σ m a = .ok x m) (hb : evE C σ m b = .ok y m) : evE C σ m (.call f (.cons a (.cons b .nil))) = C f [x, y] m := by
  simp only [evE, evEs, ha, hb, Res.bind_ok]
theorem e_and {a b : E} {x : Bool} (ha : evE C σ m a = .ok (.d (.bl x)) m) : evE C σ m (.and2 a b) = if x then evE C σ m b else .ok (.d (.bl false)) m := by
  rw [evE, ha, Res.bind_ok]
  cases x <;> rfl
theorem s_asg {i : Nat} {e : E} {w : W} (h : evE C σ m e = .ok w m) : evS C σ m (.asg i e) = .next (σ.set i (some w)) m := by
  rw [evS, h, Res.toS_ok]
theorem s_ex {e : E} {w : W} {m1 : Mu} (h : evE C σ m e = .ok w m1) : evS C σ m (.ex e) = .next σ m1 := by
  rw [evS, h, Res.toS_ok]
theorem s_exX {e : E} {x : Xn} {m1 : Mu} (h : evE C σ m e = .exc x m1) : evS C σ m (.ex e) = .exc x σ m1 := by
  rw [evS, h, Res.toS_exc]
theorem s_if {c : E} {a b : Ss} {x : Bool} {m1 : Mu} (h : evE C σ m c = .ok (.d (.bl x)) m1) : evS C σ m (.if_ c a b) = if x then evSs C σ m1 a else evSs C σ m1 b := by
  rw [evS, h, tst_ok, Res.toS_ok]
theorem e_cmp {o : Co} {a b : E} {x y : W} (ha : evE C σ m a = .ok x m) (hb : evE C σ m b = .ok y m) : evE C σ m (.cmp o a b) = blR (cmpR m o x y) := by
  rw [evE, ha, Res.bind_ok, hb, Res.bind_ok]
theorem cmp_eq (i j : Int) : cmpR m .eq (.d (.int i)) (.d (.int j)) = .ok (decide (i = j)) m := eq_int m i j
theorem cmp_le (i j : Int) : cmpR m .le (.d (.int i)) (.d (.int j)) = .ok (decide (i ≤ j)) m := rfl
theorem cmp_lt (i j : Int) : cmpR m .lt (.d (.int i)) (.d (.int j)) = .ok (decide (i < j)) m := rfl
theorem cmp_ge (i j : Int) : cmpR m .ge (.d (.int i)) (.d (.int j)) = .ok (decide (j ≤ i)) m := rfl
theorem cmp_gt (i j : Int) : cmpR m .gt (.d (.int i)) (.d (.int j)) = .ok (decide (j < i)) m := rfl
theorem bl_ok (b : Bool) : blR (.ok b m) = .ok (.d (.bl b)) m := rfl
end
/-! ### integer -/
abbrev inC : E := .and2 (.not (.meth 0 i_Source_is_over (.var 0) (.nil))) (.call i_is_figure (.cons (.ix (.at 0 0 (.var 0)) (.at 0 1 (.var 0))) (.nil)))
abbrev inB : Ss := .cons (.asg 2 (.bin .sub (.bin .add (.bin .mul (.int (10)) (.var 2)) (.ix (.at 0 0 (.var 0)) (.at 0 1 (.var 0)))) (.int (48)))) (.cons (.auga 0 1 .add (.var 0) (.int (1))) (.nil))
abbrev dec10 (acc : Nat) (l : List Nat) : Nat := l.foldl (fun n d => 10 * n + (d - 48)) acc
theorem in_loop (n : Nat) (k : Nat) (x1 x3 : Option W) : ∀ (rest p : List Nat) (m : Mu) (acc fuel : Nat), m[k]? = some (src (p ++ rest) p.length) → (p ++ rest).length ≤ line → rest.length < fuel →
    whGo (fun σ m => tst (evE (run dfs (n + 1)) σ m inC)) (fun σ m => evSs (run dfs (n + 1)) σ m inB) fuel [some (.h k), x1, some (.d (.int (acc : Int))), x3] m =
      .next [some (.h k), x1, some (.d (.int ((dec10 acc (Kh450.takeWhile Kh450.isDigit rest).1 : Nat) : Int))), x3] (m.set k (src (p ++ rest) ((p ++ rest).length - (Kh450.takeWhile Kh450.isDigit rest).2.length)))
  | [], p, m, acc, fuel, hk, hl, hf => by
    obtain ⟨f, rfl⟩ : ∃ f, fuel = f + 1 := ⟨fuel - 1, by simp at hf; omega⟩
    have hk' : m[k]? = some (src p p.length) := by simpa using hk
    have e := e_more0 (σ := [some (.h k), x1, some (.d (.int (acc : Int))), x3]) (v := 0) n rfl hk' (by simpa using hl)
    rw [wh_stop (by rw [e_and e]; exact tst_ok false m)]
    have : (p ++ []).length - (Kh450.takeWhile Kh450.isDigit []).2.length = p.length := by simp [Kh450.takeWhile]
    rw [this, set_same hk]
    rfl
  | b :: r, p, m, acc, fuel, hk, hl, hf => by
    obtain ⟨f, rfl⟩ : ∃ f, fuel = f + 1 := ⟨fuel - 1, by simp at hf; omega⟩
    have e := e_more1 (σ := [some (.h k), x1, some (.d (.int (acc : Int))), x3]) (v := 0) n rfl hk hl
    have eb := e_byte (C := run dfs (n + 1)) (σ := [some (.h k), x1, some (.d (.int (acc : Int))), x3]) (v := 0) rfl hk
    have e2 : tst (evE (run dfs (n + 1)) [some (.h k), x1, some (.d (.int (acc : Int))), x3] m inC) = .ok (Kh450.isDigit b) m := by
      rw [e_and e, if_pos rfl, e_call1 eb, r_is_figure]; rfl
    cases h : Kh450.isDigit b with
    | false =>
      rw [wh_stop (by rw [e2, h])]
      rw [tw_f h]
      have e3 : (p ++ b :: r).length - (b :: r).length = p.length := by simp
      rw [e3, set_same hk]
      rfl
    | true =>
      have hb : 48 ≤ b := by unfold Kh450.isDigit at h; simp at h; omega
      rw [tw_t h]
      have s0 : evS (run dfs (n + 1)) [some (.h k), x1, some (.d (.int (acc : Int))), x3] m (.asg 2 (.bin .sub (.bin .add (.bin .mul (.int (10)) (.var 2)) (.ix (.at 0 0 (.var 0)) (.at 0 1 (.var 0)))) (.int (48)))) = .next [some (.h k), x1, some (.d (.int ((10 * acc + (b - 48) : Nat) : Int))), x3] m := by
        have em : evE (run dfs (n + 1)) [some (.h k), x1, some (.d (.int (acc : Int))), x3] m (.bin .mul (.int 10) (.var 2)) = .ok (.d (.int (10 * (acc : Int)))) m := by
          rw [e_bin (e_int 10) (e_var rfl)]; exact mul_small _ (by decide)
        have ea := e_bin (o := .add) em eb
        rw [add_int'] at ea
        have es := e_bin (o := .sub) ea (e_int 48)
        rw [sub_int'] at es
        rw [s_asg es]
        have : 10 * (acc : Int) + (b : Int) - 48 = ((10 * acc + (b - 48) : Nat) : Int) := by omega
        rw [this]; rfl
      have s1 := s_aug1 (C := run dfs (n + 1)) (σ := [some (.h k), x1, some (.d (.int ((10 * acc + (b - 48) : Nat) : Int))), x3]) (v := 0) rfl hk
      have eL : p ++ b :: r = (p ++ [b]) ++ r := by simp
      have hk2 : (m.set k (src (p ++ b :: r) (p.length + 1)))[k]? = some (src ((p ++ [b]) ++ r) (p ++ [b]).length) := by
        rw [set_at hk, eL]; simp
      have ih := in_loop n k x1 x3 r (p ++ [b]) _ (10 * acc + (b - 48)) f hk2 (by simpa using hl) (by simp at hf; omega)
      rw [wh_go (m1 := m) (by rw [e2, h])]
      rw [evSs_cons, s0, SR.then_next, evSs_cons, s1, SR.then_next, evSs_nil, SR.then_next, ih, List.set_set, ← eL]
      rfl
theorem r_integer (n : Nat) {m : Mu} {k : Nat} {p r : List Nat} {b : Nat} (hb : Kh450.isDigit b = true) (hk : m[k]? = some (src (p ++ b :: r) p.length)) (hl : (p ++ b :: r).length < 999999) :
    run dfs (n + 2) i_Source_integer [.h k] m =
      if 6 < (Kh450.takeWhile Kh450.isDigit (b :: r)).1.length ∨ (1 < (Kh450.takeWhile Kh450.isDigit (b :: r)).1.length ∧ b = 48) then .exc ⟨0, [5, (p.length : Int)]⟩ (m.set k (src (p ++ b :: r) ((p ++ b :: r).length - (Kh450.takeWhile Kh450.isDigit (b :: r)).2.length)))
      else .ok (.d (.int ((dec10 0 (Kh450.takeWhile Kh450.isDigit (b :: r)).1 : Nat) : Int))) (m.set k (src (p ++ b :: r) ((p ++ b :: r).length - (Kh450.takeWhile Kh450.isDigit (b :: r)).2.length))) := by
  rw [run_at (d := f_Source_integer) rfl]
  show endS m.length (evSs (run dfs (n + 1)) [some (.h k), none, none, none] m b_Source_integer) = _
  unfold b_Source_integer
  have e0 := e_at (C := run dfs (n + 1)) (σ := [some (.h k), none, none, none]) (v := 0) rfl hk
  have lp := in_loop n k (some (.d (.int (p.length : Int)))) none (b :: r) p m 0 turns hk (by unfold line; omega) (by unfold turns; simp at hl ⊢; omega)
  rw [evSs_cons, s_asg e0, SR.then_next, evSs_cons]
  show endS m.length ((evS (run dfs (n + 1)) [some (.h k), some (.d (.int (p.length : Int))), none, none] m (.asg 2 (.int 0))).then _) = _
  rw [s_asg (e_int 0), SR.then_next, evSs_cons]
  show endS m.length ((evS (run dfs (n + 1)) [some (.h k), some (.d (.int (p.length : Int))), some (.d (.int ((0 : Nat) : Int))), none] m (.wh _ _)).then _) = _
  rw [evS, lp, SR.then_next]
  have happ := tw_app Kh450.isDigit (b :: r)
  have hlen1 : 1 ≤ (Kh450.takeWhile Kh450.isDigit (b :: r)).1.length := by rw [tw_t hb]; simp
  generalize hpre : (Kh450.takeWhile Kh450.isDigit (b :: r)).1 = pre at *
  generalize hpost : (Kh450.takeWhile Kh450.isDigit (b :: r)).2 = post at *
  have hrl : r.length + 1 = pre.length + post.length := by have := congrArg List.length happ; simpa using this.symm
  have hat : (p ++ b :: r).length - post.length = p.length + pre.length := by simp; omega
  rw [hat]
  have hk2 : (m.set k (src (p ++ b :: r) (p.length + pre.length)))[k]? = some (src (p ++ b :: r) (p.length + pre.length)) := set_at hk
  have hml : (m.set k (src (p ++ b :: r) (p.length + pre.length))).length = m.length := by simp
  generalize hM : m.set k (src (p ++ b :: r) (p.length + pre.length)) = M at *
  have e1 := e_at (C := run dfs (n + 1)) (σ := [some (.h k), some (.d (.int (p.length : Int))), some (.d (.int ((dec10 0 pre : Nat) : Int))), none]) (v := 0) rfl hk2
  have e3 := e_bin (o := .sub) e1 (e_var (C := run dfs (n + 1)) (σ := [some (.h k), some (.d (.int (p.length : Int))), some (.d (.int ((dec10 0 pre : Nat) : Int))), none]) (v := 1) (m := M) rfl)
  rw [sub_int'] at e3
  have e4 : ((p.length + pre.length : Nat) : Int) - (p.length : Int) = ((pre.length : Nat) : Int) := by omega
  rw [e4] at e3
  rw [evSs_cons, s_asg e3, SR.then_next, evSs_cons]
  show endS m.length ((evS (run dfs (n + 1)) [some (.h k), some (.d (.int (p.length : Int))), some (.d (.int ((dec10 0 pre : Nat) : Int))), some (.d (.int ((pre.length : Nat) : Int)))] M _).then _) = _
  generalize hσ : [some (W.h k), some (.d (.int (p.length : Int))), some (.d (.int ((dec10 0 pre : Nat) : Int))), some (.d (.int ((pre.length : Nat) : Int)))] = σ
  have v0 : σ[0]? = some (some (.h k)) := by rw [← hσ]; rfl
  have v1 : σ[1]? = some (some (.d (.int (p.length : Int)))) := by rw [← hσ]; rfl
  have v2 : σ[2]? = some (some (.d (.int ((dec10 0 pre : Nat) : Int)))) := by rw [← hσ]; rfl
  have v3 : σ[3]? = some (some (.d (.int ((pre.length : Nat) : Int)))) := by rw [← hσ]; rfl
  have c1 : evE (run dfs (n + 1)) σ M (.cmp .le (.var 3) (.gi "MOST_DIGITS" 6)) = .ok (.d (.bl (decide (pre.length ≤ 6)))) M := by
    rw [e_cmp (e_var v3) (e_gi _ _), cmp_le, bl_ok]
    congr 3
    rw [decide_eq_decide]; omega
  have c2 : evE (run dfs (n + 1)) σ M (.cmp .eq (.var 3) (.int 1)) = .ok (.d (.bl (decide (pre.length = 1)))) M := by
    rw [e_cmp (e_var v3) (e_int _), cmp_eq, bl_ok]
    congr 3
    rw [decide_eq_decide]; omega
  have c3 : evE (run dfs (n + 1)) σ M (.cmp .ne (.ix (.at 0 0 (.var 0)) (.var 1)) (.int 48)) = .ok (.d (.bl (!decide (b = 48)))) M := by
    have q : evE (run dfs (n + 1)) σ M (.ix (.at 0 0 (.var 0)) (.var 1)) = .ok (.d (.int (b : Int))) M := by
      rw [evE, e_row v0 hk2, Res.bind_ok, e_var v1, Res.bind_ok]
      exact ix_row M p b r
    rw [e_cmp q (e_int _), ne_int, bl_ok]
    congr 4
    rw [decide_eq_decide]; omega
  have c4 : evE (run dfs (n + 1)) σ M (.and2 (.cmp .le (.var 3) (.gi "MOST_DIGITS" 6)) (.or2 (.cmp .eq (.var 3) (.int 1)) (.cmp .ne (.ix (.at 0 0 (.var 0)) (.var 1)) (.int 48)))) = .ok (.d (.bl (decide (pre.length ≤ 6) && (decide (pre.length = 1) || !decide (b = 48))))) M := by
    rw [e_and c1, or2_bl c2, c3]
    cases decide (pre.length ≤ 6) <;> cases decide (pre.length = 1) <;> rfl
  have c5 := e_call3 (f := i_check_place) c4 (e_gi (C := run dfs (n + 1)) (σ := σ) (m := M) "BAD_INTEGER" 5) (e_var v1)
  rw [r_check] at c5
  by_cases hbad : 6 < pre.length ∨ (1 < pre.length ∧ b = 48)
  · have hz : (decide (pre.length ≤ 6) && (decide (pre.length = 1) || !decide (b = 48))) = false := by
      rcases hbad with h | ⟨h, rfl⟩
      · have : ¬ pre.length ≤ 6 := by omega
        simp [this]
      · have : ¬ pre.length = 1 := by omega
        simp [this]
    rw [hz] at c5
    rw [if_pos hbad, s_exX c5, SR.then_exc]
    show Res.exc _ (M.take m.length) = _
    rw [← hml, List.take_length]
  · have hz : (decide (pre.length ≤ 6) && (decide (pre.length = 1) || !decide (b = 48))) = true := by
      have h1 : pre.length ≤ 6 := by omega
      by_cases h2 : pre.length = 1
      · simp [h2]
      · have h3 : ¬ b = 48 := fun h => hbad (.inr ⟨by omega, h⟩)
        simp [h1, h3]
    rw [hz] at c5
    rw [if_neg hbad, s_ex c5, SR.then_next, ev_ret, e_var v2, Res.toS_ok]
    show Res.ok _ (M.take m.length) = _
    rw [← hml, List.take_length]
end UT
end Cn

namespace Cn
namespace UT
/-! ### symbol -/
abbrev smL : List Nat := [97, 98, 99, 100, 101, 102, 103, 104, 105, 106, 107, 108, 109, 110, 111, 112, 113, 114, 115, 116, 117, 118, 119, 120, 121, 122]
abbrev fgL : List Nat := [48, 49, 50, 51, 52, 53, 54, 55, 56, 57, 97, 98, 99, 100, 101, 102]
theorem sm_at : ∀ b, b < 123 → Kh450.isLower b = true → atZ smL ((b : Int) - 97) = some b := by decide
theorem fg_at : ∀ b, b < 58 → Kh450.isDigit b = true → atZ fgL ((b : Int) - 48) = some b := by decide
theorem str_ix (m : Mu) (cs : List Nat) (i : Int) (c : Nat) (hl : cs.length ≤ line) (h : atZ cs i = some c) : ixR m (.d (.str cs)) (.d (.int i)) = .ok (.d (.str [c])) m := by
  simp only [ixR, h]
  rw [guardR_of]
  simpa using hl
theorem add_str (m : Mu) (x y : List Nat) (h : x.length + y.length ≤ line) : binR m .add (.d (.str x)) (.d (.str y)) = .ok (.d (.str (x ++ y))) m := by
  show guardR _ _ = _
  rw [guardR_of]
  simpa using h
abbrev syC : E := .not (.meth 0 i_Source_is_over (.var 0) (.nil))
abbrev syI : S := (.if_ (.call i_is_small (.cons (.var 2) (.nil))) (.cons (.asg 1 (.bin .add (.var 1) (.ix (.gs "SMALL" [97, 98, 99, 100, 101, 102, 103, 104, 105, 106, 107, 108, 109, 110, 111, 112, 113, 114, 115, 116, 117, 118, 119, 120, 121, 122]) (.bin .sub (.var 2) (.int (97)))))) (.nil)) (.cons (.if_ (.call i_is_figure (.cons (.var 2) (.nil))) (.cons (.asg 1 (.bin .add (.var 1) (.ix (.gs "FIGURES" [48, 49, 50, 51, 52, 53, 54, 55, 56, 57, 97, 98, 99, 100, 101, 102]) (.bin .sub (.var 2) (.int (48)))))) (.nil)) (.cons (.if_ (.cmp .eq (.var 2) (.gi "HYPHEN" (45))) (.cons (.asg 1 (.bin .add (.var 1) (.str [45]))) (.nil)) (.cons (.ret (.var 1)) (.nil))) (.nil))) (.nil)))
abbrev syB : Ss := .cons (.asg 2 (.ix (.at 0 0 (.var 0)) (.at 0 1 (.var 0)))) (.cons syI (.cons (.auga 0 1 .add (.var 0) (.int (1))) (.nil)))
theorem sy_if (n : Nat) (m : Mu) (k b : Nat) (acc : List Nat) (ha : acc.length + 1 ≤ line) : evS (run dfs (n + 1)) [some (.h k), some (.d (.str acc)), some (.d (.int (b : Int)))] m syI =
    if Kh450.isSymbolPart b then .next [some (.h k), some (.d (.str (acc ++ [b]))), some (.d (.int (b : Int)))] m else .ret (.d (.str acc)) [some (.h k), some (.d (.str acc)), some (.d (.int (b : Int)))] m := by
  generalize hσ : [some (W.h k), some (W.d (.str acc)), some (.d (.int (b : Int)))] = σ
  have v1 : σ[1]? = some (some (.d (.str acc))) := by rw [← hσ]; rfl
  have v2 : σ[2]? = some (some (.d (.int (b : Int)))) := by rw [← hσ]; rfl
  have st : σ.set 1 (some (.d (.str (acc ++ [b])))) = [some (.h k), some (.d (.str (acc ++ [b]))), some (.d (.int (b : Int)))] := by rw [← hσ]; rfl
  have e1 : evE (run dfs (n + 1)) σ m (.call i_is_small (.cons (.var 2) .nil)) = .ok (.d (.bl (Kh450.isLower b))) m := by rw [e_call1 (e_var v2), r_is_small]
  have e2 : evE (run dfs (n + 1)) σ m (.call i_is_figure (.cons (.var 2) .nil)) = .ok (.d (.bl (Kh450.isDigit b))) m := by rw [e_call1 (e_var v2), r_is_figure]
  have e3 : evE (run dfs (n + 1)) σ m (.cmp .eq (.var 2) (.gi "HYPHEN" 45)) = .ok (.d (.bl (b == 45))) m := by
    rw [e_cmp (e_var v2) (e_gi _ _), cmp_eq, bl_ok]
    congr 3
    rw [Bool.eq_iff_iff]; simp; omega
  have one : [b].length = 1 := rfl
  rw [s_if e1]
  unfold Kh450.isSymbolPart
  cases h1 : Kh450.isLower b with
  | true =>
    have hb : b < 123 := by unfold Kh450.isLower at h1; simp at h1; omega
    have q : evE (run dfs (n + 1)) σ m (.ix (.gs "SMALL" smL) (.bin .sub (.var 2) (.int 97))) = .ok (.d (.str [b])) m := by
      rw [evE]
      have : evE (run dfs (n + 1)) σ m (.gs "SMALL" smL) = .ok (.d (.str smL)) m := by simp only [evE]
      rw [this, Res.bind_ok, e_bin (e_var v2) (e_int 97), sub_int', Res.bind_ok]
      exact str_ix m smL _ b (by decide) (sm_at b hb h1)
    rw [if_pos rfl, evSs_cons, s_asg (by rw [e_bin (e_var v1) q]; exact add_str m acc [b] ha), SR.then_next, evSs_nil, st]
    rfl
  | false =>
    rw [if_neg (by simp), evSs_cons, s_if e2]
    cases h2 : Kh450.isDigit b with
    | true =>
      have hb : b < 58 := by unfold Kh450.isDigit at h2; simp at h2; omega
      have q : evE (run dfs (n + 1)) σ m (.ix (.gs "FIGURES" fgL) (.bin .sub (.var 2) (.int 48))) = .ok (.d (.str [b])) m := by
        rw [evE]
        have : evE (run dfs (n + 1)) σ m (.gs "FIGURES" fgL) = .ok (.d (.str fgL)) m := by simp only [evE]
        rw [this, Res.bind_ok, e_bin (e_var v2) (e_int 48), sub_int', Res.bind_ok]
        exact str_ix m fgL _ b (by decide) (fg_at b hb h2)
      rw [if_pos rfl, evSs_cons, s_asg (by rw [e_bin (e_var v1) q]; exact add_str m acc [b] ha), SR.then_next, evSs_nil, SR.then_next, evSs_nil, st]
      rfl
    | false =>
      rw [if_neg (by simp), evSs_cons, s_if e3]
      cases h3 : (b == 45) with
      | true =>
        have hb : b = 45 := by simpa using h3
        have q : evE (run dfs (n + 1)) σ m (.str [45]) = .ok (.d (.str [b])) m := by rw [hb]; simp only [evE]
        rw [if_pos rfl, evSs_cons, s_asg (by rw [e_bin (e_var v1) q]; exact add_str m acc [b] ha), SR.then_next, evSs_nil, SR.then_next, evSs_nil, SR.then_next, evSs_nil, st]
        rfl
      | false =>
        rw [if_neg (by simp), ev_ret, e_var v1, Res.toS_ok, SR.then_ret, SR.then_ret]
        rfl
theorem sy_loop (n : Nat) (k : Nat) : ∀ (rest p : List Nat) (m : Mu) (acc : List Nat) (x2 : Option W) (fuel : Nat), m[k]? = some (src (p ++ rest) p.length) → (p ++ rest).length ≤ line → acc.length + rest.length ≤ line → rest.length < fuel →
    ∃ σ', (whGo (fun σ m => tst (evE (run dfs (n + 1)) σ m syC)) (fun σ m => evSs (run dfs (n + 1)) σ m syB) fuel [some (.h k), some (.d (.str acc)), x2] m).then (fun σ m => evSs (run dfs (n + 1)) σ m (.cons (.ret (.var 1)) .nil)) =
      .ret (.d (.str (acc ++ (Kh450.takeWhile Kh450.isSymbolPart rest).1))) σ' (m.set k (src (p ++ rest) ((p ++ rest).length - (Kh450.takeWhile Kh450.isSymbolPart rest).2.length)))
  | [], p, m, acc, x2, fuel, hk, hl, ha, hf => by
    obtain ⟨f, rfl⟩ : ∃ f, fuel = f + 1 := ⟨fuel - 1, by simp at hf; omega⟩
    have hk' : m[k]? = some (src p p.length) := by simpa using hk
    have e := e_more0 (σ := [some (.h k), some (.d (.str acc)), x2]) (v := 0) n rfl hk' (by simpa using hl)
    refine ⟨[some (.h k), some (.d (.str acc)), x2], ?_⟩
    rw [wh_stop (by rw [e]; exact tst_ok false m), SR.then_next]
    have : (p ++ []).length - (Kh450.takeWhile Kh450.isSymbolPart []).2.length = p.length := by simp [Kh450.takeWhile]
    rw [this, set_same hk, ev_ret, e_var rfl, Res.toS_ok]
    simp [Kh450.takeWhile]
  | b :: r, p, m, acc, x2, fuel, hk, hl, ha, hf => by
    obtain ⟨f, rfl⟩ : ∃ f, fuel = f + 1 := ⟨fuel - 1, by simp at hf; omega⟩
    have e := e_more1 (σ := [some (.h k), some (.d (.str acc)), x2]) (v := 0) n rfl hk hl
    have eb := e_byte (C := run dfs (n + 1)) (σ := [some (.h k), some (.d (.str acc)), x2]) (v := 0) rfl hk
    have si := sy_if n m k b acc (by simp at ha; omega)
    rw [wh_go (m1 := m) (by rw [e]; exact tst_ok true m), evSs_cons, s_asg eb, SR.then_next, evSs_cons]
    show ∃ σ', (((evS (run dfs (n + 1)) [some (.h k), some (.d (.str acc)), some (.d (.int (b : Int)))] m syI).then _).then _).then _ = _
    rw [si]
    cases h : Kh450.isSymbolPart b with
    | false =>
      rw [if_neg (by simp), SR.then_ret, SR.then_ret, SR.then_ret, tw_f h]
      have e3 : (p ++ b :: r).length - (b :: r).length = p.length := by simp
      rw [e3, set_same hk]
      exact ⟨_, by simp; rfl⟩
    | true =>
      rw [if_pos rfl, SR.then_next, tw_t h]
      have s1 := s_aug1 (C := run dfs (n + 1)) (σ := [some (.h k), some (.d (.str (acc ++ [b]))), some (.d (.int (b : Int)))]) (v := 0) rfl hk
      have eL : p ++ b :: r = (p ++ [b]) ++ r := by simp
      have hk2 : (m.set k (src (p ++ b :: r) (p.length + 1)))[k]? = some (src ((p ++ [b]) ++ r) (p ++ [b]).length) := by
        rw [set_at hk, eL]; simp
      obtain ⟨σ', ih⟩ := sy_loop n k r (p ++ [b]) _ (acc ++ [b]) (some (.d (.int (b : Int)))) f hk2 (by simpa using hl) (by simp at ha ⊢; omega) (by simp at hf; omega)
      refine ⟨σ', ?_⟩
      rw [evSs_cons, s1, SR.then_next, evSs_nil, SR.then_next, ih, List.set_set, ← eL]
      simp
theorem r_symbol (n : Nat) {m : Mu} {k : Nat} {p rest : List Nat} (hk : m[k]? = some (src (p ++ rest) p.length)) (hl : (p ++ rest).length < 999999) :
    run dfs (n + 2) i_Source_symbol [.h k] m = .ok (.d (.str (Kh450.takeWhile Kh450.isSymbolPart rest).1)) (m.set k (src (p ++ rest) ((p ++ rest).length - (Kh450.takeWhile Kh450.isSymbolPart rest).2.length))) := by
  rw [run_at (d := f_Source_symbol) rfl]
  show endS m.length (evSs (run dfs (n + 1)) [some (.h k), none, none] m b_Source_symbol) = _
  obtain ⟨σ', lp⟩ := sy_loop n k rest p m [] none turns hk (by unfold line; omega) (by unfold line; simp at hl ⊢; omega) (by unfold turns; simp at hl; omega)
  unfold b_Source_symbol
  have e0 : evE (run dfs (n + 1)) [some (.h k), none, none] m (.str []) = .ok (.d (.str [])) m := by simp only [evE]
  rw [evSs_cons, s_asg e0, SR.then_next, evSs_cons]
  show endS m.length ((evS (run dfs (n + 1)) [some (.h k), some (.d (.str [])), none] m (.wh _ _)).then _) = _
  rw [evS, lp]
  simp only [endS, endR, List.nil_append, take_set]
/-! ### stands, hexadecimal -/
theorem r_stands0 (n : Nat) {m : Mu} {k : Nat} {p : List Nat} (c : Nat) (hk : m[k]? = some (src p p.length)) (hl : p.length ≤ line) : run dfs (n + 2) i_Source_stands [.h k, .d (.int (c : Int))] m = .ok (.d (.bl false)) m := by
  rw [run_at (d := f_Source_stands) rfl]
  show endS m.length (evSs (run dfs (n + 1)) [some (.h k), some (.d (.int (c : Int)))] m b_Source_stands) = _
  unfold b_Source_stands
  rw [ev_ret, e_and (e_more0 n rfl hk hl)]
  simp [endS, endR]
theorem r_stands1 (n : Nat) {m : Mu} {k : Nat} {p r : List Nat} {b : Nat} (c : Nat) (hk : m[k]? = some (src (p ++ b :: r) p.length)) (hl : (p ++ b :: r).length ≤ line) : run dfs (n + 2) i_Source_stands [.h k, .d (.int (c : Int))] m = .ok (.d (.bl (decide (b = c)))) m := by
  rw [run_at (d := f_Source_stands) rfl]
  show endS m.length (evSs (run dfs (n + 1)) [some (.h k), some (.d (.int (c : Int)))] m b_Source_stands) = _
  unfold b_Source_stands
  have e1 : evE (run dfs (n + 1)) [some (.h k), some (.d (.int (c : Int)))] m (.cmp .eq (.ix (.at 0 0 (.var 0)) (.at 0 1 (.var 0))) (.var 1)) = .ok (.d (.bl (decide (b = c)))) m := by
    rw [e_cmp (e_byte rfl hk) (e_var rfl), cmp_eq, bl_ok]
    congr 3
    rw [decide_eq_decide]; omega
  rw [ev_ret, e_and (e_more1 n rfl hk hl), if_pos rfl, e1]
  simp [endS, endR]
/-- whether the bytes begin with one -/
def headIs (l : List Nat) (c : Nat) : Bool := match l with
  | [] => false
  | b :: _ => decide (b = c)
theorem r_stands (n : Nat) {m : Mu} {k : Nat} {p rest : List Nat} (c : Nat) (hk : m[k]? = some (src (p ++ rest) p.length)) (hl : (p ++ rest).length ≤ line) : run dfs (n + 2) i_Source_stands [.h k, .d (.int (c : Int))] m = .ok (.d (.bl (headIs rest c))) m := by
  cases rest with
  | nil => exact r_stands0 n c (by simpa using hk) (by simpa using hl)
  | cons b r => exact r_stands1 n c hk hl
def isHex (b : Nat) : Bool := decide (0 ≤ hexW b)
abbrev hexN (acc : Nat) (l : List Nat) : Nat := l.foldl (fun n d => 16 * n + (hexW d).toNat) acc
abbrev hxC : E := .and2 (.not (.meth 0 i_Source_is_over (.var 0) (.nil))) (.cmp .ge (.call i_hex_worth (.cons (.ix (.at 0 0 (.var 0)) (.at 0 1 (.var 0))) (.nil))) (.int (0)))
abbrev hxB : Ss := .cons (.asg 1 (.bin .add (.bin .mul (.int (16)) (.var 1)) (.call i_hex_worth (.cons (.ix (.at 0 0 (.var 0)) (.at 0 1 (.var 0))) (.nil))))) (.cons (.asg 2 (.bin .add (.var 2) (.int (1)))) (.cons (.auga 0 1 .add (.var 0) (.int (1))) (.nil)))
theorem hx_loop (n : Nat) (k : Nat) : ∀ (rest p : List Nat) (m : Mu) (acc j fuel : Nat), m[k]? = some (src (p ++ rest) p.length) → (p ++ rest).length ≤ line → rest.length < fuel →
    whGo (fun σ m => tst (evE (run dfs (n + 2)) σ m hxC)) (fun σ m => evSs (run dfs (n + 2)) σ m hxB) fuel [some (.h k), some (.d (.int (acc : Int))), some (.d (.int (j : Int)))] m =
      .next [some (.h k), some (.d (.int ((hexN acc (Kh450.takeWhile isHex rest).1 : Nat) : Int))), some (.d (.int ((j + (Kh450.takeWhile isHex rest).1.length : Nat) : Int)))] (m.set k (src (p ++ rest) ((p ++ rest).length - (Kh450.takeWhile isHex rest).2.length)))
  | [], p, m, acc, j, fuel, hk, hl, hf => by
    obtain ⟨f, rfl⟩ : ∃ f, fuel = f + 1 := ⟨fuel - 1, by simp at hf; omega⟩
    have hk' : m[k]? = some (src p p.length) := by simpa using hk
    have e := e_more0 (σ := [some (.h k), some (.d (.int (acc : Int))), some (.d (.int (j : Int)))]) (v := 0) (n + 1) rfl hk' (by simpa using hl)
    rw [wh_stop (by rw [e_and e]; exact tst_ok false m)]
    have : (p ++ []).length - (Kh450.takeWhile isHex []).2.length = p.length := by simp [Kh450.takeWhile]
    rw [this, set_same hk]
    rfl
  | b :: r, p, m, acc, j, fuel, hk, hl, hf => by
    obtain ⟨f, rfl⟩ : ∃ f, fuel = f + 1 := ⟨fuel - 1, by simp at hf; omega⟩
    have e := e_more1 (σ := [some (.h k), some (.d (.int (acc : Int))), some (.d (.int (j : Int)))]) (v := 0) (n + 1) rfl hk hl
    have eb := e_byte (C := run dfs (n + 2)) (σ := [some (.h k), some (.d (.int (acc : Int))), some (.d (.int (j : Int)))]) (v := 0) rfl hk
    have ew : evE (run dfs (n + 2)) [some (.h k), some (.d (.int (acc : Int))), some (.d (.int (j : Int)))] m (.call i_hex_worth (.cons (.ix (.at 0 0 (.var 0)) (.at 0 1 (.var 0))) .nil)) = .ok (.d (.int (hexW b))) m := by
      rw [e_call1 eb, r_hex_worth]
    have e2 : tst (evE (run dfs (n + 2)) [some (.h k), some (.d (.int (acc : Int))), some (.d (.int (j : Int)))] m hxC) = .ok (isHex b) m := by
      rw [e_and e, if_pos rfl, e_cmp ew (e_int 0), cmp_ge, bl_ok]; rfl
    cases h : isHex b with
    | false =>
      rw [wh_stop (by rw [e2, h]), tw_f h]
      have e3 : (p ++ b :: r).length - (b :: r).length = p.length := by simp
      rw [e3, set_same hk]
      rfl
    | true =>
      have hb : 0 ≤ hexW b := of_decide_eq_true h
      rw [tw_t h]
      have em : evE (run dfs (n + 2)) [some (.h k), some (.d (.int (acc : Int))), some (.d (.int (j : Int)))] m (.bin .mul (.int 16) (.var 1)) = .ok (.d (.int (16 * (acc : Int)))) m := by
        rw [e_bin (e_int 16) (e_var rfl)]; exact mul_small _ (by decide)
      have ea := e_bin (o := .add) em ew
      rw [add_int'] at ea
      have ev : 16 * (acc : Int) + hexW b = ((16 * acc + (hexW b).toNat : Nat) : Int) := by omega
      rw [ev] at ea
      have e5 : evE (run dfs (n + 2)) [some (.h k), some (.d (.int ((16 * acc + (hexW b).toNat : Nat) : Int))), some (.d (.int (j : Int)))] m (.bin .add (.var 2) (.int 1)) = .ok (.d (.int ((j + 1 : Nat) : Int))) m := by
        rw [e_bin (e_var rfl) (e_int 1), add_int']; rfl
      have s1 := s_aug1 (C := run dfs (n + 2)) (σ := [some (.h k), some (.d (.int ((16 * acc + (hexW b).toNat : Nat) : Int))), some (.d (.int ((j + 1 : Nat) : Int)))]) (v := 0) rfl hk
      have eL : p ++ b :: r = (p ++ [b]) ++ r := by simp
      have hk2 : (m.set k (src (p ++ b :: r) (p.length + 1)))[k]? = some (src ((p ++ [b]) ++ r) (p ++ [b]).length) := by
        rw [set_at hk, eL]; simp
      have ih := hx_loop n k r (p ++ [b]) _ (16 * acc + (hexW b).toNat) (j + 1) f hk2 (by simpa using hl) (by simp at hf; omega)
      rw [wh_go (m1 := m) (by rw [e2, h]), evSs_cons, s_asg ea, SR.then_next, evSs_cons]
      show ((evS (run dfs (n + 2)) [some (.h k), some (.d (.int ((16 * acc + (hexW b).toNat : Nat) : Int))), some (.d (.int (j : Int)))] m _).then _).then _ = _
      rw [s_asg e5, SR.then_next, evSs_cons]
      show ((evS (run dfs (n + 2)) [some (.h k), some (.d (.int ((16 * acc + (hexW b).toNat : Nat) : Int))), some (.d (.int ((j + 1 : Nat) : Int)))] m _).then _).then _ = _
      rw [s1, SR.then_next, evSs_nil, SR.then_next, ih, List.set_set, ← eL]
      have e6 : j + 1 + (Kh450.takeWhile isHex r).1.length = j + (b :: (Kh450.takeWhile isHex r).1).length := by simp; omega
      rw [e6]
      rfl
theorem r_hexadecimal (n : Nat) {m : Mu} {k : Nat} {p rest : List Nat} (hk : m[k]? = some (src (p ++ rest) p.length)) (hl : (p ++ rest).length < 999999) :
    run dfs (n + 3) i_Source_hexadecimal [.h k] m = .ok (.d (.tup [.int ((hexN 0 (Kh450.takeWhile isHex rest).1 : Nat) : Int), .int (((Kh450.takeWhile isHex rest).1.length : Nat) : Int)])) (m.set k (src (p ++ rest) ((p ++ rest).length - (Kh450.takeWhile isHex rest).2.length))) := by
  rw [run_at (d := f_Source_hexadecimal) rfl]
  show endS m.length (evSs (run dfs (n + 2)) [some (.h k), none, none] m b_Source_hexadecimal) = _
  have lp := hx_loop n k rest p m 0 0 turns hk (by unfold line; omega) (by unfold turns; simp at hl; omega)
  unfold b_Source_hexadecimal
  rw [evSs_cons, s_asg (e_int 0), SR.then_next, evSs_cons, s_asg (e_int 0), SR.then_next, evSs_cons]
  show endS m.length ((evS (run dfs (n + 2)) [some (.h k), some (.d (.int ((0 : Nat) : Int))), some (.d (.int ((0 : Nat) : Int)))] m (.wh _ _)).then _) = _
  rw [evS, lp, SR.then_next, ev_ret]
  have h2 : 2 ≤ line := by unfold line; omega
  simp [evE, evEs, allD, guardR, h2, endS, endR, take_set]
end UT
end Cn

namespace Cn
namespace UT
/-! ### character -/
theorem r_character (n : Nat) {m : Mu} {k : Nat} {p r : List Nat} {a : Nat} (hk : m[k]? = some (src (p ++ a :: r) p.length)) (hl : (p ++ a :: r).length < 999999) :
    run dfs (n + 3) i_Source_character [.h k] m =
      if a < 32 then .exc ⟨0, [2, (p.length : Int)]⟩ m
      else match dec a r with
        | none => .exc ⟨0, [4, (p.length : Int)]⟩ m
        | some (c, rest) => .ok (.d (.int (c : Int))) (m.set k (src (p ++ a :: r) ((p ++ a :: r).length - rest.length))) := by
  rw [run_at (d := f_Source_character) rfl]
  show endS m.length (evSs (run dfs (n + 2)) [some (.h k), none, none] m b_Source_character) = _
  unfold b_Source_character
  have hll : (p ++ a :: r).length ≤ line := by unfold line; omega
  have c1 : evE (run dfs (n + 2)) [some (.h k), none, none] m (.cmp .ge (.ix (.at 0 0 (.var 0)) (.at 0 1 (.var 0))) (.int 32)) = .ok (.d (.bl (!decide (a < 32)))) m := by
    rw [e_cmp (e_byte (v := 0) rfl hk) (e_int 32), cmp_ge, bl_ok]
    congr 3
    by_cases h : a < 32
    · have : ¬ (32 : Int) ≤ a := by omega
      simp [h, this]
    · have : (32 : Int) ≤ a := by omega
      simp [h, this]
  have c2 := e_call3 (f := i_check_place) c1 (e_gi (C := run dfs (n + 2)) (σ := [some (.h k), none, none]) (m := m) "UNEXPECTED" 2) (e_at (v := 0) rfl hk)
  rw [r_check] at c2
  by_cases h : a < 32
  · rw [if_pos h]
    simp only [h, decide_true, Bool.not_true, if_false, Bool.false_eq_true] at c2
    rw [evSs_cons, s_exX c2, SR.then_exc]
    simp [endS]
  · rw [if_neg h]
    simp only [h, decide_false, Bool.not_false, if_true] at c2
    rw [evSs_cons, s_ex c2, SR.then_next, evSs_cons]
    have c3 := e_call2 (f := i_sequence_at) (e_row (C := run dfs (n + 2)) (σ := [some (.h k), none, none]) (v := 0) rfl hk) (e_at (v := 0) rfl hk)
    rw [r_seq n a p r m hll] at c3
    cases hd : dec a r with
    | none =>
      have hs : seqW a r = .d (.tup [.int 0, .int 0]) := by simp [seqW, hd]
      rw [hs] at c3
      have s1 : evS (run dfs (n + 2)) [some (.h k), none, none] m (.asgT [1, 2] (.call i_sequence_at (.cons (.at 0 0 (.var 0)) (.cons (.at 0 1 (.var 0)) .nil)))) = .next [some (.h k), some (.d (.int 0)), some (.d (.int 0))] m := by
        rw [evS, c3, Res.toS_ok]; rfl
      rw [s1, SR.then_next, evSs_cons]
      have c4 : evE (run dfs (n + 2)) [some (.h k), some (.d (.int 0)), some (.d (.int 0))] m (.cmp .gt (.var 2) (.int 0)) = .ok (.d (.bl false)) m := by
        rw [e_cmp (e_var rfl) (e_int 0), cmp_gt, bl_ok]; rfl
      have c5 := e_call3 (f := i_check_place) c4 (e_gi (C := run dfs (n + 2)) (σ := [some (.h k), some (.d (.int 0)), some (.d (.int 0))]) (m := m) "BAD_UTF" 4) (e_at (v := 0) rfl hk)
      rw [r_check] at c5
      simp only [if_false, Bool.false_eq_true] at c5
      rw [s_exX c5, SR.then_exc]
      simp [endS]
    | some cr =>
      obtain ⟨c, rest⟩ := cr
      obtain ⟨q, q1, q2, q3⟩ := dec_cut hd
      have hs : seqW a r = .d (.tup [.int c, .int ((r.length + 1 - rest.length : Nat) : Int)]) := by simp [seqW, hd]
      rw [hs] at c3
      have hr : r.length + 1 = q.length + rest.length := by have := congrArg List.length q1; simpa using this
      generalize hmany : r.length + 1 - rest.length = many at *
      have s1 : evS (run dfs (n + 2)) [some (.h k), none, none] m (.asgT [1, 2] (.call i_sequence_at (.cons (.at 0 0 (.var 0)) (.cons (.at 0 1 (.var 0)) .nil)))) = .next [some (.h k), some (.d (.int c)), some (.d (.int (many : Int)))] m := by
        rw [evS, c3, Res.toS_ok]; rfl
      rw [s1, SR.then_next, evSs_cons]
      have c4 : evE (run dfs (n + 2)) [some (.h k), some (.d (.int c)), some (.d (.int (many : Int)))] m (.cmp .gt (.var 2) (.int 0)) = .ok (.d (.bl true)) m := by
        rw [e_cmp (e_var rfl) (e_int 0), cmp_gt, bl_ok]
        have : (0 : Int) < many := by omega
        simp
        omega
      have c5 := e_call3 (f := i_check_place) c4 (e_gi (C := run dfs (n + 2)) (σ := [some (.h k), some (.d (.int c)), some (.d (.int (many : Int)))]) (m := m) "BAD_UTF" 4) (e_at (v := 0) rfl hk)
      rw [r_check] at c5
      simp only [if_true] at c5
      have s2 := s_aug (C := run dfs (n + 2)) (σ := [some (.h k), some (.d (.int c)), some (.d (.int (many : Int)))]) (v := 0) (e := .var 2) (j := many) rfl hk (e_var rfl)
      have e9 : p.length + many = (p ++ a :: r).length - rest.length := by simp; omega
      rw [s_ex c5, SR.then_next, evSs_cons, s2, SR.then_next, ev_ret, e_var rfl, Res.toS_ok, e9]
      simp only [endS, endR, take_set]
/-! ### escape -/
def escL : Nat → Option Nat := fun b => if b = 34 then some 34 else if b = 92 then some 92 else if b = 110 then some 10 else if b = 116 then some 9 else none
theorem esc_lk (b : Nat) : d_ESCAPES.lookup (b : Int) = (escL b).map fun c => (c : Int) := by
  unfold d_ESCAPES escL
  by_cases h1 : b = 34
  · subst h1; rfl
  · by_cases h2 : b = 92
    · subst h2; rfl
    · by_cases h3 : b = 110
      · subst h3; rfl
      · by_cases h4 : b = 116
        · subst h4; rfl
        · have q1 : ((b : Int) == 34) = false := by simp; omega
          have q2 : ((b : Int) == 92) = false := by simp; omega
          have q3 : ((b : Int) == 110) = false := by simp; omega
          have q4 : ((b : Int) == 116) = false := by simp; omega
          simp [List.lookup, q1, q2, q3, q4, h1, h2, h3, h4]
theorem hexW_val (b : Nat) : Kh450.hexValue b = if isHex b then some (hexW b).toNat else none := by
  unfold Kh450.hexValue isHex hexW
  cases h : Kh450.isDigit b with
  | true =>
    have : 48 ≤ b := by unfold Kh450.isDigit at h; simp at h; omega
    have h2 : (0 : Int) ≤ (b : Int) - 48 := by omega
    simp [h2]
    omega
  | false =>
    by_cases h3 : 97 ≤ b ∧ b ≤ 102
    · have h2 : (0 : Int) ≤ (b : Int) - 87 := by omega
      simp [h3, h2]
      omega
    · simp [h3]
theorem hexStep_none : ∀ l : List Nat, l.foldl (fun n d => match n, Kh450.hexValue d with | some x, some y => some (16 * x + y) | _, _ => none) (none : Option Nat) = none
  | [] => rfl
  | b :: r => by rw [List.foldl_cons]; exact hexStep_none r
theorem hex_all : ∀ (l : List Nat) (acc : Nat), (∀ x ∈ l, isHex x = true) → l.foldl (fun n d => match n, Kh450.hexValue d with | some x, some y => some (16 * x + y) | _, _ => none) (some acc) = some (hexN acc l)
  | [], acc, _ => rfl
  | b :: r, acc, h => by
    rw [List.foldl_cons, hexW_val, if_pos (h b List.mem_cons_self)]
    exact hex_all r _ fun x hx => h x (List.mem_cons_of_mem _ hx)
theorem hex_bad : ∀ (l : List Nat) (acc : Nat), (∃ x ∈ l, isHex x = false) → l.foldl (fun n d => match n, Kh450.hexValue d with | some x, some y => some (16 * x + y) | _, _ => none) (some acc) = none
  | [], acc, ⟨x, hx, _⟩ => by cases hx
  | b :: r, acc, ⟨x, hx, h⟩ => by
    rw [List.foldl_cons, hexW_val]
    cases hb : isHex b with
    | false => exact hexStep_none r
    | true =>
      rw [if_pos rfl]
      rcases List.mem_cons.mp hx with rfl | hx
      · rw [hb] at h; cases h
      · exact hex_bad r _ ⟨x, hx, h⟩
theorem isHex_125 : isHex 125 = false := by decide
theorem hexNumber_eq (l : List Nat) : Kh450.hexNumber l = l.foldl (fun n d => match n, Kh450.hexValue d with | some x, some y => some (16 * x + y) | _, _ => none) (some 0) := rfl
/-- the braces of an escape sequence -/
def hexRead (r : List Nat) : Option (Nat × List Nat) :=
  if headIs (Kh450.takeWhile isHex r).2 125 = true then
    (if 1 ≤ (Kh450.takeWhile isHex r).1.length ∧ (Kh450.takeWhile isHex r).1.length ≤ 6 ∧ Kh450.isScalar (hexN 0 (Kh450.takeWhile isHex r).1) = true then some (hexN 0 (Kh450.takeWhile isHex r).1, (Kh450.takeWhile isHex r).2.drop 1) else none)
  else none
theorem tw_hex : ∀ (l r4 : List Nat), (∀ x ∈ l, isHex x = true) → Kh450.takeWhile (fun b => b != 125) (l ++ 125 :: r4) = (l, 125 :: r4)
  | [], r4, _ => tw_f (by simp)
  | b :: l, r4, h => by
    have hb : b ≠ 125 := fun e => by have := h b List.mem_cons_self; rw [e, isHex_125] at this; cases this
    rw [List.cons_append, tw_t (by simpa using hb), tw_hex l r4 fun x hx => h x (List.mem_cons_of_mem _ hx)]
theorem tw_pre : ∀ (l r : List Nat), (∀ x ∈ l, isHex x = true) → (Kh450.takeWhile (fun b => b != 125) (l ++ r)) = (l ++ (Kh450.takeWhile (fun b => b != 125) r).1, (Kh450.takeWhile (fun b => b != 125) r).2)
  | [], r, _ => rfl
  | b :: l, r, h => by
    have hb : b ≠ 125 := fun e => by have := h b List.mem_cons_self; rw [e, isHex_125] at this; cases this
    rw [List.cons_append, tw_t (by simpa using hb), tw_pre l r fun x hx => h x (List.mem_cons_of_mem _ hx)]
    rfl
theorem tw_end (P : Nat → Bool) : ∀ l : List Nat, (Kh450.takeWhile P l).2 = [] ∨ ∃ c r, (Kh450.takeWhile P l).2 = c :: r ∧ P c = false
  | [] => .inl rfl
  | b :: r => by
    cases h : P b with
    | true => rw [tw_t h]; exact tw_end P r
    | false => rw [tw_f h]; exact .inr ⟨b, r, rfl, h⟩
theorem hex_eq (r : List Nat) : (let digits := Kh450.takeWhile (fun b => b != 125) r
    if digits.1.isEmpty ∨ 6 < digits.1.length ∨ digits.2.isEmpty then none
    else match Kh450.hexNumber digits.1 with
      | none => none
      | some c => if Kh450.isScalar c then some (c, digits.2.drop 1) else none) = hexRead r := by
  dsimp only
  have hall := tw_all isHex r
  have happ := tw_app isHex r
  have hend := tw_end isHex r
  unfold hexRead
  generalize hpre : (Kh450.takeWhile isHex r).1 = pre at *
  generalize hpost : (Kh450.takeWhile isHex r).2 = post at *
  rcases hend with rfl | ⟨c, r4, rfl, hc⟩
  · rw [List.append_nil] at happ
    subst happ
    have := tw_pre pre [] hall
    rw [List.append_nil] at this
    rw [this]
    simp [Kh450.takeWhile, headIs]
  · by_cases h : c = 125
    · subst h
      rw [← happ, tw_hex pre r4 hall]
      dsimp only
      rw [hexNumber_eq, hex_all pre 0 hall, if_pos (show headIs (125 :: r4) 125 = true from rfl)]
      dsimp only
      by_cases h1 : 1 ≤ pre.length
      · by_cases h2 : pre.length ≤ 6
        · have hp : pre ≠ [] := fun e => by rw [e] at h1; simp at h1
          have hg : ¬ (pre.isEmpty = true ∨ 6 < pre.length ∨ (125 :: r4).isEmpty = true) := by
            simp [hp]; omega
          rw [if_neg hg]
          by_cases hs : Kh450.isScalar (hexN 0 pre) = true
          · simp [hs, h1, h2]
          · simp [hs, h1, h2]
        · rw [if_pos (.inr (.inl (by omega))), if_neg fun z => h2 z.2.1]
      · have hp : pre = [] := List.eq_nil_of_length_eq_zero (by omega)
        rw [if_pos (.inl (by rw [hp]; rfl)), if_neg fun z => h1 z.1]
    · have e1 : Kh450.takeWhile (fun b => b != 125) (c :: r4) = (c :: (Kh450.takeWhile (fun b => b != 125) r4).1, (Kh450.takeWhile (fun b => b != 125) r4).2) := tw_t (by simpa using h)
      have hr : ¬ headIs (c :: r4) 125 = true := by simp [headIs, h]
      rw [if_neg hr, ← happ, tw_pre pre _ hall, e1]
      dsimp only
      rw [hexNumber_eq, hex_bad _ 0 ⟨c, by simp, hc⟩]
      split <;> rfl
theorem re_eq (e : Nat) (r2 : List Nat) : Kh450.readEscape (e :: r2) = match escL e with
    | some c => some (c, r2)
    | none => if e = 117 then (if headIs r2 123 = true then hexRead (r2.drop 1) else none) else none := by
  unfold escL
  by_cases h1 : e = 34
  · subst h1; rfl
  by_cases h2 : e = 92
  · subst h2; rfl
  by_cases h3 : e = 110
  · subst h3; rfl
  by_cases h4 : e = 116
  · subst h4; rfl
  rw [if_neg h1, if_neg h2, if_neg h3, if_neg h4]
  dsimp only
  by_cases h5 : e = 117
  · subst h5
    rw [if_pos rfl]
    cases r2 with
    | nil => rfl
    | cons b r3 =>
      by_cases h6 : b = 123
      · subst h6
        rw [if_pos (show headIs (123 :: r3) 123 = true from rfl)]
        exact hex_eq r3
      · have q : Kh450.readEscape (117 :: b :: r3) = none := by
          unfold Kh450.readEscape
          split <;> first | rfl | (rename_i z; cases z; done) | (rename_i z; cases z; contradiction)
        rw [q, if_neg (by simp [headIs, h6])]
  · rw [if_neg h5]
    unfold Kh450.readEscape
    split <;> first | rfl | (rename_i z; cases z; done) | (rename_i z; cases z; contradiction)
theorem r_escape0 (n : Nat) {m : Mu} {k : Nat} {p : List Nat} {a : Nat} (hk : m[k]? = some (src (p ++ [a]) p.length)) (hl : (p ++ [a]).length < 999999) :
    ∃ m', run dfs (n + 4) i_Source_escape [.h k] m = .exc ⟨0, [1, ((p ++ [a]).length : Int)]⟩ m' := by
  rw [run_at (d := f_Source_escape) rfl]
  show ∃ m', endS m.length (evSs (run dfs (n + 3)) [some (.h k), none, none, none, none] m b_Source_escape) = _
  unfold b_Source_escape
  have hll : (p ++ [a]).length ≤ line := by unfold line; omega
  have s1 := s_asg (i := 1) (e_at (C := run dfs (n + 3)) (σ := [some (.h k), none, none, none, none]) (v := 0) rfl hk)
  rw [evSs_cons, s1, SR.then_next, evSs_cons]
  have s2 := s_aug1 (C := run dfs (n + 3)) (σ := [some (.h k), some (.d (.int (p.length : Int))), none, none, none]) (v := 0) rfl hk
  have hk2 : (m.set k (src (p ++ [a]) (p.length + 1)))[k]? = some (src (p ++ [a]) (p ++ [a]).length) := by rw [set_at hk]; simp
  have c1 := e_call3 (f := i_check_place) (e_more0 (σ := [some (.h k), some (.d (.int (p.length : Int))), none, none, none]) (v := 0) (n + 2) rfl hk2 hll) (e_gi "TOO_EARLY" 1) (e_len (e_row (v := 0) rfl hk2) hll)
  rw [r_check] at c1
  simp only [if_false, Bool.false_eq_true] at c1
  show ∃ m', endS m.length (((evS (run dfs (n + 3)) [some (.h k), some (.d (.int (p.length : Int))), none, none, none] m _)).then _) = _
  rw [s2, SR.then_next, evSs_cons, s_exX c1, SR.then_exc]
  exact ⟨_, rfl⟩
theorem r_escape (n : Nat) {m : Mu} {k : Nat} {p r2 : List Nat} {a e : Nat} (hk : m[k]? = some (src (p ++ a :: e :: r2) p.length)) (hl : (p ++ a :: e :: r2).length < 999999) :
    match Kh450.readEscape (e :: r2) with
    | none => ∃ m', run dfs (n + 4) i_Source_escape [.h k] m = .exc ⟨0, [3, (p.length : Int)]⟩ m'
    | some (c, rest) => run dfs (n + 4) i_Source_escape [.h k] m = .ok (.d (.int (c : Int))) (m.set k (src (p ++ a :: e :: r2) ((p ++ a :: e :: r2).length - rest.length))) := by
  rw [run_at (d := f_Source_escape) rfl]
  have st : runD (run dfs (n + 3)) f_Source_escape [.h k] m = endS m.length (evSs (run dfs (n + 3)) [some (.h k), none, none, none, none] m b_Source_escape) := rfl
  rw [st]
  unfold b_Source_escape
  have hll : (p ++ a :: e :: r2).length ≤ line := by unfold line; omega
  have hml : ∀ x, (m.set k x).length = m.length := fun x => by simp
  have s1 := s_asg (i := 1) (e_at (C := run dfs (n + 3)) (σ := [some (.h k), none, none, none, none]) (v := 0) rfl hk)
  have s2 := s_aug1 (C := run dfs (n + 3)) (σ := [some (.h k), some (.d (.int (p.length : Int))), none, none, none]) (v := 0) rfl hk
  have eL1 : p ++ a :: e :: r2 = (p ++ [a]) ++ e :: r2 := by simp
  have hk2 : (m.set k (src (p ++ a :: e :: r2) (p.length + 1)))[k]? = some (src ((p ++ [a]) ++ e :: r2) (p ++ [a]).length) := by rw [set_at hk, eL1]; simp
  have c1 := e_call3 (f := i_check_place) (e_more1 (σ := [some (.h k), some (.d (.int (p.length : Int))), none, none, none]) (v := 0) (n + 2) rfl hk2 (by rw [← eL1]; exact hll)) (e_gi "TOO_EARLY" 1) (e_len (e_row (v := 0) rfl hk2) (by rw [← eL1]; exact hll))
  rw [r_check] at c1
  simp only [if_true] at c1
  have s3 := s_asg (i := 2) (e_byte (C := run dfs (n + 3)) (σ := [some (.h k), some (.d (.int (p.length : Int))), none, none, none]) (v := 0) rfl hk2)
  have s4 := s_aug1 (C := run dfs (n + 3)) (σ := [some (.h k), some (.d (.int (p.length : Int))), some (.d (.int (e : Int))), none, none]) (v := 0) rfl hk2
  rw [List.set_set] at s4
  have eL2 : (p ++ [a]) ++ e :: r2 = (p ++ [a, e]) ++ r2 := by simp
  have eN2 : (p ++ [a]).length + 1 = (p ++ [a, e]).length := by simp
  rw [eL2, eN2] at s4
  have hk3 : (m.set k (src ((p ++ [a, e]) ++ r2) (p ++ [a, e]).length))[k]? = some (src ((p ++ [a, e]) ++ r2) (p ++ [a, e]).length) := set_at hk
  have eL3 : p ++ a :: e :: r2 = (p ++ [a, e]) ++ r2 := by simp
  have hl3 : ((p ++ [a, e]) ++ r2).length < 999999 := by rw [← eL3]; exact hl
  have hll3 : ((p ++ [a, e]) ++ r2).length ≤ line := by rw [← eL3]; exact hll
  -- up to the look at the dict
  have upto : ∀ (R : Ss), (evSs (run dfs (n + 3)) [some (.h k), none, none, none, none] m (.cons (.asg 1 (.at 0 1 (.var 0))) (.cons (.auga 0 1 .add (.var 0) (.int (1))) (.cons (.ex (.call i_check_place (.cons (.not (.meth 0 i_Source_is_over (.var 0) (.nil))) (.cons (.gi "TOO_EARLY" (1)) (.cons (.b1 .len (.at 0 0 (.var 0))) (.nil)))))) (.cons (.asg 2 (.ix (.at 0 0 (.var 0)) (.at 0 1 (.var 0)))) (.cons (.auga 0 1 .add (.var 0) (.int (1))) R)))))) =
      evSs (run dfs (n + 3)) [some (.h k), some (.d (.int (p.length : Int))), some (.d (.int (e : Int))), none, none] (m.set k (src ((p ++ [a, e]) ++ r2) (p ++ [a, e]).length)) R := by
    intro R
    rw [evSs_cons, s1, SR.then_next, evSs_cons]
    show (((evS (run dfs (n + 3)) [some (.h k), some (.d (.int (p.length : Int))), none, none, none] m _)).then _) = _
    rw [s2, SR.then_next, evSs_cons, s_ex c1, SR.then_next, evSs_cons, s3, SR.then_next, evSs_cons]
    show (((evS (run dfs (n + 3)) [some (.h k), some (.d (.int (p.length : Int))), some (.d (.int (e : Int))), none, none] _ _)).then _) = _
    rw [s4, SR.then_next]
  rw [upto, re_eq]
  rw [eL3]
  generalize hM : m.set k (src ((p ++ [a, e]) ++ r2) (p ++ [a, e]).length) = M at *
  have hMl : M.length = m.length := by rw [← hM]; simp
  have hMs : ∀ x, M.set k x = m.set k x := fun x => by rw [← hM, List.set_set]
  generalize hσ : [some (W.h k), some (.d (.int (p.length : Int))), some (.d (.int (e : Int))), none, none] = σ
  have v0 : σ[0]? = some (some (.h k)) := by rw [← hσ]; rfl
  have v1 : σ[1]? = some (some (.d (.int (p.length : Int)))) := by rw [← hσ]; rfl
  have v2 : σ[2]? = some (some (.d (.int (e : Int)))) := by rw [← hσ]; rfl
  have g1 : evE (run dfs (n + 3)) σ M (.gin "ESCAPES" d_ESCAPES (.var 2)) = .ok (.d (.bl (escL e).isSome)) M := by
    rw [evE, e_var v2, Res.bind_ok, ginR, esc_lk]
    cases escL e <;> rfl
  rw [evSs_cons, s_if g1]
  cases he : escL e with
  | some c =>
    dsimp only
    have g2 : evE (run dfs (n + 3)) σ M (.gget "ESCAPES" d_ESCAPES (.var 2)) = .ok (.d (.int (c : Int))) M := by
      rw [evE, e_var v2, Res.bind_ok, ggetR, esc_lk, he]
      rfl
    simp only [Option.isSome_some, if_true]
    rw [ev_ret, g2, Res.toS_ok, SR.then_ret]
    have e9 : ((p ++ [a, e]) ++ r2).length - r2.length = (p ++ [a, e]).length := by simp; omega
    rw [e9, hM]
    show Res.ok _ (M.take m.length) = _
    rw [← hMl, List.take_length]
  | none =>
    dsimp only
    simp only [Option.isSome_none, if_false, Bool.false_eq_true]
    rw [evSs_nil, SR.then_next, evSs_cons]
    have d1 : evE (run dfs (n + 3)) σ M (.cmp .eq (.var 2) (.gi "LETTER_U" 117)) = .ok (.d (.bl (decide (e = 117)))) M := by
      rw [e_cmp (e_var v2) (e_gi _ _), cmp_eq, bl_ok]
      congr 3
      rw [decide_eq_decide]; omega
    have d2 : evE (run dfs (n + 3)) σ M (.meth 0 i_Source_stands (.var 0) (.cons (.gi "LEFT_BRACE" 123) .nil)) = .ok (.d (.bl (headIs r2 123))) M := by
      rw [e_meth v0 hk3]
      simp only [evEs, evE, Res.bind_ok]
      exact r_stands (n + 1) 123 hk3 hll3
    have d3 : evE (run dfs (n + 3)) σ M (.and2 (.cmp .eq (.var 2) (.gi "LETTER_U" 117)) (.meth 0 i_Source_stands (.var 0) (.cons (.gi "LEFT_BRACE" 123) .nil))) = .ok (.d (.bl (decide (e = 117) && headIs r2 123))) M := by
      rw [e_and d1, d2]
      cases decide (e = 117) <;> rfl
    have d4 := e_call3 (f := i_check_place) d3 (e_gi (C := run dfs (n + 3)) (σ := σ) (m := M) "BAD_ESCAPE" 3) (e_var v1)
    rw [r_check] at d4
    have bad : (decide (e = 117) && headIs r2 123) = false → ∀ R : Ss, ∃ m', endS m.length ((evS (run dfs (n + 3)) σ M (.ex (.call i_check_place (.cons (.and2 (.cmp .eq (.var 2) (.gi "LETTER_U" 117)) (.meth 0 i_Source_stands (.var 0) (.cons (.gi "LEFT_BRACE" 123) .nil))) (.cons (.gi "BAD_ESCAPE" 3) (.cons (.var 1) .nil)))))).then fun σ m => evSs (run dfs (n + 3)) σ m R) = .exc ⟨0, [3, (p.length : Int)]⟩ m' := fun hb R => by
      rw [hb] at d4
      simp only [if_false, Bool.false_eq_true] at d4
      rw [s_exX d4, SR.then_exc]
      exact ⟨_, rfl⟩
    by_cases h117 : e = 117
    · rw [if_pos h117]
      match r2, bad, d4, hk3, hl3, hll3, hMs, eL3, hM with
      | [], bad, _, _, _, _, _, _, _ =>
        rw [if_neg (by simp [headIs])]
        exact bad (by simp [headIs]) _
      | b :: r3, bad, d4, hk3, hl3, hll3, hMs, eL3, hM =>
        by_cases hb : b = 123
        · subst hb
          have ht : (decide (e = 117) && headIs (123 :: r3) 123) = true := by simp [h117, headIs]
          rw [if_pos (show headIs (123 :: r3) 123 = true from rfl), List.drop_one, List.tail_cons]
          rw [ht] at d4
          simp only [if_true] at d4
          rw [s_ex d4, SR.then_next, evSs_cons]
          have s5 := s_aug1 (C := run dfs (n + 3)) (σ := σ) (v := 0) v0 hk3
          rw [hMs] at s5
          have eL4 : (p ++ [a, e]) ++ 123 :: r3 = (p ++ [a, e, 123]) ++ r3 := by simp
          have eN4 : (p ++ [a, e]).length + 1 = (p ++ [a, e, 123]).length := by simp
          rw [eL4, eN4] at s5
          have hk4 : (m.set k (src ((p ++ [a, e, 123]) ++ r3) (p ++ [a, e, 123]).length))[k]? = some (src ((p ++ [a, e, 123]) ++ r3) (p ++ [a, e, 123]).length) := set_at hk
          have hl4 : ((p ++ [a, e, 123]) ++ r3).length < 999999 := by rw [← eL4]; exact hl3
          have hx := r_hexadecimal n hk4 hl4
          rw [List.set_set] at hx
          rw [s5, SR.then_next, evSs_cons]
          have happ := tw_app isHex r3
          unfold hexRead
          generalize hpre : (Kh450.takeWhile isHex r3).1 = pre at *
          generalize hpost : (Kh450.takeWhile isHex r3).2 = post at *
          have eL5 : (p ++ [a, e, 123]) ++ r3 = (p ++ [a, e, 123] ++ pre) ++ post := by rw [← happ]; simp
          have eN5 : ((p ++ [a, e, 123]) ++ r3).length - post.length = (p ++ [a, e, 123] ++ pre).length := by rw [eL5]; simp; omega
          rw [eN5, eL5] at hx
          have c6 : evE (run dfs (n + 3)) σ (m.set k (src ((p ++ [a, e, 123]) ++ r3) (p ++ [a, e, 123]).length)) (.meth 0 i_Source_hexadecimal (.var 0) .nil) = .ok (.d (.tup [.int ((hexN 0 pre : Nat) : Int), .int ((pre.length : Nat) : Int)])) (m.set k (src ((p ++ [a, e, 123] ++ pre) ++ post) (p ++ [a, e, 123] ++ pre).length)) := by
            rw [e_meth0 v0 hk4, eL5]; exact hx
          have s6 : evS (run dfs (n + 3)) σ (m.set k (src ((p ++ [a, e, 123]) ++ r3) (p ++ [a, e, 123]).length)) (.asgT [3, 4] (.meth 0 i_Source_hexadecimal (.var 0) .nil)) = .next [some (W.h k), some (.d (.int (p.length : Int))), some (.d (.int (e : Int))), some (.d (.int ((hexN 0 pre : Nat) : Int))), some (.d (.int ((pre.length : Nat) : Int)))] (m.set k (src ((p ++ [a, e, 123] ++ pre) ++ post) (p ++ [a, e, 123] ++ pre).length)) := by
            rw [evS, c6, Res.toS_ok, ← hσ]; rfl
          have hk5 : (m.set k (src ((p ++ [a, e, 123] ++ pre) ++ post) (p ++ [a, e, 123] ++ pre).length))[k]? = some (src ((p ++ [a, e, 123] ++ pre) ++ post) (p ++ [a, e, 123] ++ pre).length) := set_at hk
          have hl5 : ((p ++ [a, e, 123] ++ pre) ++ post).length ≤ line := by rw [← eL5]; unfold line; omega
          rw [s6, SR.then_next, evSs_cons]
          generalize hτ : [some (W.h k), some (.d (.int (p.length : Int))), some (.d (.int (e : Int))), some (.d (.int ((hexN 0 pre : Nat) : Int))), some (.d (.int ((pre.length : Nat) : Int)))] = τ
          have w0 : τ[0]? = some (some (.h k)) := by rw [← hτ]; rfl
          have w1 : τ[1]? = some (some (.d (.int (p.length : Int)))) := by rw [← hτ]; rfl
          have w3 : τ[3]? = some (some (.d (.int ((hexN 0 pre : Nat) : Int)))) := by rw [← hτ]; rfl
          have w4 : τ[4]? = some (some (.d (.int ((pre.length : Nat) : Int)))) := by rw [← hτ]; rfl
          generalize hN : m.set k (src ((p ++ [a, e, 123] ++ pre) ++ post) (p ++ [a, e, 123] ++ pre).length) = N at *
          have hNl : N.length = m.length := by rw [← hN]; simp
          have f1 := ch_int (e_int (C := run dfs (n + 3)) (σ := τ) (m := N) 1) (e_var w4) (e_gi "MOST_HEX" 6)
          have f2 : evE (run dfs (n + 3)) τ N (.meth 0 i_Source_stands (.var 0) (.cons (.gi "RIGHT_BRACE" 125) .nil)) = .ok (.d (.bl (headIs post 125))) N := by
            rw [e_meth w0 hk5]
            simp only [evEs, evE, Res.bind_ok]
            exact r_stands (n + 1) 125 hk5 hl5
          have f3 : evE (run dfs (n + 3)) τ N (.call i_is_point (.cons (.var 3) .nil)) = .ok (.d (.bl (Kh450.isScalar (hexN 0 pre)))) N := by
            rw [e_call1 (e_var w3), r_is_point]
          have f4 : evE (run dfs (n + 3)) τ N (.and2 (.ch .le .le (.int (1)) (.var 4) (.gi "MOST_HEX" (6))) (.and2 (.meth 0 i_Source_stands (.var 0) (.cons (.gi "RIGHT_BRACE" (125)) (.nil))) (.call i_is_point (.cons (.var 3) (.nil))))) = .ok (.d (.bl ((decide ((1 : Int) ≤ (pre.length : Nat)) && decide (((pre.length : Nat) : Int) ≤ 6)) && (headIs post 125 && Kh450.isScalar (hexN 0 pre))))) N := by
            rw [e_and f1, e_and f2, f3]
            cases (decide ((1 : Int) ≤ (pre.length : Nat)) && decide (((pre.length : Nat) : Int) ≤ 6)) <;> cases headIs post 125 <;> rfl
          have f5 := e_call3 (f := i_check_place) f4 (e_gi (C := run dfs (n + 3)) (σ := τ) (m := N) "BAD_ESCAPE" 3) (e_var w1)
          rw [r_check] at f5
          have bad2 : ((decide ((1 : Int) ≤ (pre.length : Nat)) && decide (((pre.length : Nat) : Int) ≤ 6)) && (headIs post 125 && Kh450.isScalar (hexN 0 pre))) = false → ∀ R : Ss, ∃ m', endS m.length ((evS (run dfs (n + 3)) τ N (.ex (.call i_check_place (.cons (.and2 (.ch .le .le (.int (1)) (.var 4) (.gi "MOST_HEX" (6))) (.and2 (.meth 0 i_Source_stands (.var 0) (.cons (.gi "RIGHT_BRACE" (125)) (.nil))) (.call i_is_point (.cons (.var 3) (.nil))))) (.cons (.gi "BAD_ESCAPE" 3) (.cons (.var 1) .nil)))))).then fun σ m => evSs (run dfs (n + 3)) σ m R) = .exc ⟨0, [3, (p.length : Int)]⟩ m' := fun hb R => by
            rw [hb] at f5
            simp only [if_false, Bool.false_eq_true] at f5
            rw [s_exX f5, SR.then_exc]
            exact ⟨_, rfl⟩
          match post, hpost, bad2, f5, hk5, hl5, eL5, hN with
          | [], _, bad2, _, _, _, _, _ =>
            rw [if_neg (by simp [headIs])]
            exact bad2 (by simp [headIs]) _
          | c :: r4, _, bad2, f5, hk5, hl5, eL5, hN =>
            by_cases hc : c = 125
            · subst hc
              rw [if_pos (show headIs (125 :: r4) 125 = true from rfl), List.drop_one, List.tail_cons]
              by_cases hok : 1 ≤ pre.length ∧ pre.length ≤ 6 ∧ Kh450.isScalar (hexN 0 pre) = true
              · rw [if_pos hok]
                obtain ⟨o1, o2, o3⟩ := hok
                have o1' : (1 : Int) ≤ (pre.length : Nat) := by omega
                have o2' : ((pre.length : Nat) : Int) ≤ 6 := by omega
                have hz : ((decide ((1 : Int) ≤ (pre.length : Nat)) && decide (((pre.length : Nat) : Int) ≤ 6)) && (headIs (125 :: r4) 125 && Kh450.isScalar (hexN 0 pre))) = true := by
                  simp only [o1', o2', o3, headIs, decide_true, Bool.and_self]
                rw [hz] at f5
                simp only [if_true] at f5
                have s7 := s_aug1 (C := run dfs (n + 3)) (σ := τ) (v := 0) w0 hk5
                dsimp only
                rw [s_ex f5, SR.then_next, evSs_cons, s7, SR.then_next, ev_ret, e_var w3, Res.toS_ok]
                have e9 : (p ++ [a, e, 123] ++ pre).length + 1 = ((p ++ [a, e]) ++ 123 :: r3).length - r4.length := by
                  rw [eL4, eL5]; simp; omega
                rw [e9, ← eL5, ← eL4]
                show Res.ok _ ((N.set k _).take m.length) = _
                rw [← hNl, take_set, ← hN, List.set_set]
              · rw [if_neg hok]
                refine bad2 ?_ _
                by_cases o1 : 1 ≤ pre.length
                · by_cases o2 : pre.length ≤ 6
                  · have o3 : Kh450.isScalar (hexN 0 pre) = false := by
                      cases z : Kh450.isScalar (hexN 0 pre) with
                      | true => exact absurd ⟨o1, o2, z⟩ hok
                      | false => rfl
                    rw [o3]; simp
                  · have : ¬ ((pre.length : Nat) : Int) ≤ 6 := by omega
                    simp [this]
                · have : ¬ (1 : Int) ≤ (pre.length : Nat) := by omega
                  simp [this]
            · rw [if_neg (by simp [headIs, hc])]
              exact bad2 (by simp [headIs, hc]) _
        · rw [if_neg (by simp [headIs, hb])]
          exact bad (by simp [headIs, hb]) _
    · rw [if_neg h117]
      exact bad (by simp [h117]) _
end UT
end Cn

namespace Cn
namespace UT
/-- a list behind the others -/
abbrev lstO (xs : List D) : Option Gr := some ⟨.o (.lst xs), []⟩
theorem isLst_end {m : Mu} {L : Nat} {xs : List D} (hL : m.length = L) : isLst (m ++ [lstO xs]) (.h L) = true := by
  subst hL
  simp only [isLst, lst_at]
theorem app_end {m : Mu} {L : Nat} {xs : List D} {x : D} (hL : m.length = L) (h : xs.length < line) : appR (m ++ [lstO xs]) (.h L) (.d x) = .ok (.d .non) (m ++ [lstO (xs ++ [x])]) := by
  subst hL
  simp only [appR, lst_at, appFo, foAt, setFo, lst_set]
  rw [guardR_of]
  simpa using h
theorem set_app {m : Mu} {k : Nat} {x : Option Gr} {y : Mu} (h : k < m.length) : (m ++ y).set k x = m.set k x ++ y := List.set_append_left _ _ h
theorem at_app {m : Mu} {k : Nat} {x : Option Gr} {y : Mu} (h : m[k]? = some x) : (m ++ y)[k]? = some x := by
  rw [List.getElem?_append_left (List.getElem?_eq_some_iff.mp h).1, h]
theorem e_app {C : Calls} {σ : Sl} {v : Nat} {e : E} {m m' : Mu} {L : Nat} {xs : List D} {x : D} (hv : σ[v]? = some (some (.h L))) (hL : m.length = L) (hL' : m'.length = L) (he : evE C σ (m ++ [lstO xs]) e = .ok (.d x) (m' ++ [lstO xs])) (h : xs.length < line) :
    evE C σ (m ++ [lstO xs]) (.app (.var v) e) = .ok (.d .non) (m' ++ [lstO (xs ++ [x])]) := by
  rw [evE, e_var hv, Res.bind_ok, isLst_end hL, guardR_true, he, Res.bind_ok, app_end hL' h]
theorem e_appX {C : Calls} {σ : Sl} {v : Nat} {e : E} {m m' : Mu} {L : Nat} {xs : List D} {x : Xn} (hv : σ[v]? = some (some (.h L))) (hL : m.length = L) (he : evE C σ (m ++ [lstO xs]) e = .exc x m') :
    evE C σ (m ++ [lstO xs]) (.app (.var v) e) = .exc x m' := by
  rw [evE, e_var hv, Res.bind_ok, isLst_end hL, guardR_true, he, Res.bind_exc]
theorem e_ife {C : Calls} {σ : Sl} {m : Mu} {c a b : E} {x : Bool} (h : evE C σ m c = .ok (.d (.bl x)) m) : evE C σ m (.ife c a b) = if x then evE C σ m a else evE C σ m b := by
  rw [evE, h, Res.bind_ok]
  cases x <;> rfl
abbrev stE : E := .ife (.cmp .eq (.var 2) (.gi "BACKSLASH" (92))) (.meth 0 i_Source_escape (.var 0) (.nil)) (.meth 0 i_Source_character (.var 0) (.nil))
abbrev stB : Ss := (.cons (.ex (.call i_check_place (.cons (.not (.meth 0 i_Source_is_over (.var 0) (.nil))) (.cons (.gi "TOO_EARLY" (1)) (.cons (.b1 .len (.at 0 0 (.var 0))) (.nil)))))) (.cons (.asg 2 (.ix (.at 0 0 (.var 0)) (.at 0 1 (.var 0)))) (.cons (.if_ (.cmp .eq (.var 2) (.gi "QUOTE" (34))) (.cons (.auga 0 1 .add (.var 0) (.int (1))) (.cons (.ret (.b1 .tuple (.var 1))) (.nil))) (.nil)) (.cons (.ex (.app (.var 1) stE)) (.nil)))))
theorem dec_dU (a : Nat) (r : List Nat) : Kh450.decodeUtf8 (a :: r) = dec a r := dec_eq a r
theorem st_loop (n : Nat) (k L : Nat) : ∀ (fs : Nat) (rest p : List Nat) (m : Mu) (acc : List Nat) (x2 : Option W) (fuel : Nat), m.length = L → m[k]? = some (src (p ++ rest) p.length) → (p ++ rest).length < 999999 → acc.length ≤ p.length → rest.length ≤ fs → rest.length < fuel →
    match Kh450.readString fs rest with
    | .ok t rest' => ∃ σ', whGo (fun σ m => tst (evE (run dfs (n + 4)) σ m (.bl true))) (fun σ m => evSs (run dfs (n + 4)) σ m stB) fuel [some (.h k), some (.h L), x2] (m ++ [lstO (nD acc)]) =
        .ret (.d (.tup (nD (acc ++ t)))) σ' (m.set k (src (p ++ rest) ((p ++ rest).length - rest'.length)) ++ [lstO (nD (acc ++ t))])
    | .error kd rest' => ∃ σ' m', whGo (fun σ m => tst (evE (run dfs (n + 4)) σ m (.bl true))) (fun σ m => evSs (run dfs (n + 4)) σ m stB) fuel [some (.h k), some (.h L), x2] (m ++ [lstO (nD acc)]) =
        .exc ⟨0, [(kd : Int), (((p ++ rest).length - rest'.length : Nat) : Int)]⟩ σ' m'
  | fs, [], p, m, acc, x2, fuel, hL, hk, hl, ha, hs, hf => by
    obtain ⟨f, rfl⟩ : ∃ f, fuel = f + 1 := ⟨fuel - 1, by simp at hf; omega⟩
    have e : Kh450.readString fs [] = .error 1 [] := by cases fs <;> rfl
    rw [e]
    have hk' : m[k]? = some (src p p.length) := by simpa using hk
    have hkM := at_app (y := [lstO (nD acc)]) hk'
    have hll : p.length ≤ line := by unfold line; simp at hl; omega
    have c1 := e_call3 (f := i_check_place) (e_more0 (σ := [some (.h k), some (.h L), x2]) (v := 0) (n + 3) rfl hkM hll) (e_gi "TOO_EARLY" 1) (e_len (e_row (v := 0) rfl hkM) hll)
    rw [r_check] at c1
    simp only [if_false, Bool.false_eq_true] at c1
    dsimp only
    rw [wh_go (m1 := m ++ [lstO (nD acc)]) rfl, evSs_cons, s_exX c1, SR.then_exc, SR.then_exc]
    have e9 : (((p ++ []).length - ([] : List Nat).length : Nat) : Int) = (p.length : Int) := by simp
    rw [e9]
    exact ⟨_, _, rfl⟩
  | 0, b :: r, p, m, acc, x2, fuel, hL, hk, hl, ha, hs, hf => by simp at hs
  | fs + 1, b :: r, p, m, acc, x2, fuel, hL, hk, hl, ha, hs, hf => by
    obtain ⟨f, rfl⟩ : ∃ f, fuel = f + 1 := ⟨fuel - 1, by simp at hf; omega⟩
    have hkl : k < m.length := (List.getElem?_eq_some_iff.mp hk).1
    have hkM := at_app (y := [lstO (nD acc)]) hk
    have hll : (p ++ b :: r).length ≤ line := by unfold line; omega
    have hacc : (nD acc).length < line := by rw [nD_len]; unfold line; simp at hl; omega
    have c1 := e_call3 (f := i_check_place) (e_more1 (σ := [some (.h k), some (.h L), x2]) (v := 0) (n + 3) rfl hkM hll) (e_gi "TOO_EARLY" 1) (e_len (e_row (v := 0) rfl hkM) hll)
    rw [r_check] at c1
    simp only [if_true] at c1
    have s2 := s_asg (i := 2) (e_byte (C := run dfs (n + 4)) (σ := [some (.h k), some (.h L), x2]) (v := 0) rfl hkM)
    have c3 : evE (run dfs (n + 4)) [some (.h k), some (.h L), some (.d (.int (b : Int)))] (m ++ [lstO (nD acc)]) (.cmp .eq (.var 2) (.gi "QUOTE" 34)) = .ok (.d (.bl (decide (b = 34)))) (m ++ [lstO (nD acc)]) := by
      rw [e_cmp (e_var rfl) (e_gi _ _), cmp_eq, bl_ok]
      congr 3
      rw [decide_eq_decide]; omega
    have c4 : evE (run dfs (n + 4)) [some (.h k), some (.h L), some (.d (.int (b : Int)))] (m ++ [lstO (nD acc)]) (.cmp .eq (.var 2) (.gi "BACKSLASH" 92)) = .ok (.d (.bl (decide (b = 92)))) (m ++ [lstO (nD acc)]) := by
      rw [e_cmp (e_var rfl) (e_gi _ _), cmp_eq, bl_ok]
      congr 3
      rw [decide_eq_decide]; omega
    have upto : whGo (fun σ m => tst (evE (run dfs (n + 4)) σ m (.bl true))) (fun σ m => evSs (run dfs (n + 4)) σ m stB) (f + 1) [some (.h k), some (.h L), x2] (m ++ [lstO (nD acc)]) =
        (evSs (run dfs (n + 4)) [some (.h k), some (.h L), some (.d (.int (b : Int)))] (m ++ [lstO (nD acc)]) (.cons (.if_ (.cmp .eq (.var 2) (.gi "QUOTE" (34))) (.cons (.auga 0 1 .add (.var 0) (.int (1))) (.cons (.ret (.b1 .tuple (.var 1))) (.nil))) (.nil)) (.cons (.ex (.app (.var 1) stE)) (.nil)))).then fun σ2 m2 => whGo (fun σ m => tst (evE (run dfs (n + 4)) σ m (.bl true))) (fun σ m => evSs (run dfs (n + 4)) σ m stB) f σ2 m2 := by
      rw [wh_go (m1 := m ++ [lstO (nD acc)]) rfl, evSs_cons, s_ex c1, SR.then_next, evSs_cons, s2, SR.then_next]
      rfl
    rw [upto, evSs_cons, s_if c3]
    by_cases h34 : b = 34
    · subst h34
      have e : Kh450.readString (fs + 1) (34 :: r) = .ok [] r := rfl
      rw [e]
      dsimp only
      have s5 := s_aug1 (C := run dfs (n + 4)) (σ := [some (.h k), some (.h L), some (.d (.int ((34 : Nat) : Int)))]) (v := 0) rfl hkM
      rw [set_app hkl] at s5
      have t1 : evE (run dfs (n + 4)) [some (.h k), some (.h L), some (.d (.int ((34 : Nat) : Int)))] (m.set k (src (p ++ 34 :: r) (p.length + 1)) ++ [lstO (nD acc)]) (.b1 .tuple (.var 1)) = .ok (.d (.tup (nD acc))) (m.set k (src (p ++ 34 :: r) (p.length + 1)) ++ [lstO (nD acc)]) := by
        rw [ev_b1, e_var (w := .h L) rfl, Res.bind_ok]
        have hL2 : (m.set k (src (p ++ 34 :: r) (p.length + 1))).length = L := by rw [List.length_set]; exact hL
        subst hL2
        simp only [b1R, rd, lst_at, Ob.lstD]
      simp only [decide_true, if_true]
      have e9 : (p ++ 34 :: r).length - r.length = p.length + 1 := by simp; omega
      refine ⟨[some (.h k), some (.h L), some (.d (.int ((34 : Nat) : Int)))], ?_⟩
      rw [evSs_cons, s5, SR.then_next, ev_ret, t1, Res.toS_ok, SR.then_ret, SR.then_ret, e9, List.append_nil]
    · simp only [h34, decide_false, if_false, Bool.false_eq_true]
      rw [evSs_nil, SR.then_next, evSs_cons]
      -- the value that is put in
      have go : ∀ (c : Nat) (rest2 : List Nat), (∃ q : List Nat, b :: r = q ++ rest2 ∧ 0 < q.length) →
          evE (run dfs (n + 4)) [some (.h k), some (.h L), some (.d (.int (b : Int)))] (m ++ [lstO (nD acc)]) stE = .ok (.d (.int (c : Int))) ((m ++ [lstO (nD acc)]).set k (src (p ++ b :: r) ((p ++ b :: r).length - rest2.length))) →
          Kh450.readString (fs + 1) (b :: r) = ((Kh450.readString fs rest2).bind fun codes rest => .ok (c :: codes) rest) →
          match Kh450.readString (fs + 1) (b :: r) with
          | .ok t rest' => ∃ σ', (((evS (run dfs (n + 4)) [some (.h k), some (.h L), some (.d (.int (b : Int)))] (m ++ [lstO (nD acc)]) (.ex (.app (.var 1) stE))).then fun σ m => evSs (run dfs (n + 4)) σ m .nil).then fun σ2 m2 => whGo (fun σ m => tst (evE (run dfs (n + 4)) σ m (.bl true))) (fun σ m => evSs (run dfs (n + 4)) σ m stB) f σ2 m2) =
              .ret (.d (.tup (nD (acc ++ t)))) σ' (m.set k (src (p ++ b :: r) ((p ++ b :: r).length - rest'.length)) ++ [lstO (nD (acc ++ t))])
          | .error kd rest' => ∃ σ' m', (((evS (run dfs (n + 4)) [some (.h k), some (.h L), some (.d (.int (b : Int)))] (m ++ [lstO (nD acc)]) (.ex (.app (.var 1) stE))).then fun σ m => evSs (run dfs (n + 4)) σ m .nil).then fun σ2 m2 => whGo (fun σ m => tst (evE (run dfs (n + 4)) σ m (.bl true))) (fun σ m => evSs (run dfs (n + 4)) σ m stB) f σ2 m2) =
              .exc ⟨0, [(kd : Int), (((p ++ b :: r).length - rest'.length : Nat) : Int)]⟩ σ' m' := by
        intro c rest2 hq hev hrs
        obtain ⟨q, q1, q2⟩ := hq
        have eP : (p ++ q) ++ rest2 = p ++ b :: r := by rw [List.append_assoc, ← q1]
        have eN : (p ++ b :: r).length - rest2.length = (p ++ q).length := by rw [← eP]; simp; omega
        rw [set_app hkl, eN] at hev
        have hL2 : (m.set k (src (p ++ b :: r) (p ++ q).length)).length = L := by rw [List.length_set]; exact hL
        have ea := e_app (v := 1) rfl hL hL2 hev hacc
        have hk2 : (m.set k (src (p ++ b :: r) (p ++ q).length))[k]? = some (src ((p ++ q) ++ rest2) (p ++ q).length) := by rw [set_at hk, eP]
        have hlen : r.length + 1 = q.length + rest2.length := by have := congrArg List.length q1; simpa using this
        have ih := st_loop n k L fs rest2 (p ++ q) (m.set k (src (p ++ b :: r) (p ++ q).length)) (acc ++ [c]) (some (.d (.int (b : Int)))) f hL2 hk2 (by rw [eP]; exact hl) (by simp; omega) (by simp at hs; omega) (by simp at hf; omega)
        rw [eP] at ih
        simp only [List.set_set] at ih
        have eD : nD acc ++ [D.int (c : Int)] = nD (acc ++ [c]) := by simp [nD]
        rw [eD] at ea
        rw [s_ex ea, SR.then_next, evSs_nil, SR.then_next, hrs]
        cases hz : Kh450.readString fs rest2 with
        | ok t rest' =>
          rw [hz] at ih
          obtain ⟨σ', ih⟩ := ih
          have e1 : acc ++ [c] ++ t = acc ++ c :: t := by simp
          rw [e1] at ih
          exact ⟨σ', ih⟩
        | error kd rest' =>
          rw [hz] at ih
          exact ih
      have bad : ∀ (kd : Nat) (rest2 : List Nat) (m' : Mu), evE (run dfs (n + 4)) [some (.h k), some (.h L), some (.d (.int (b : Int)))] (m ++ [lstO (nD acc)]) stE = .exc ⟨0, [(kd : Int), (((p ++ b :: r).length - rest2.length : Nat) : Int)]⟩ m' →
          Kh450.readString (fs + 1) (b :: r) = .error kd rest2 →
          match Kh450.readString (fs + 1) (b :: r) with
          | .ok t rest' => ∃ σ', (((evS (run dfs (n + 4)) [some (.h k), some (.h L), some (.d (.int (b : Int)))] (m ++ [lstO (nD acc)]) (.ex (.app (.var 1) stE))).then fun σ m => evSs (run dfs (n + 4)) σ m .nil).then fun σ2 m2 => whGo (fun σ m => tst (evE (run dfs (n + 4)) σ m (.bl true))) (fun σ m => evSs (run dfs (n + 4)) σ m stB) f σ2 m2) =
              .ret (.d (.tup (nD (acc ++ t)))) σ' (m.set k (src (p ++ b :: r) ((p ++ b :: r).length - rest'.length)) ++ [lstO (nD (acc ++ t))])
          | .error kd rest' => ∃ σ' m', (((evS (run dfs (n + 4)) [some (.h k), some (.h L), some (.d (.int (b : Int)))] (m ++ [lstO (nD acc)]) (.ex (.app (.var 1) stE))).then fun σ m => evSs (run dfs (n + 4)) σ m .nil).then fun σ2 m2 => whGo (fun σ m => tst (evE (run dfs (n + 4)) σ m (.bl true))) (fun σ m => evSs (run dfs (n + 4)) σ m stB) f σ2 m2) =
              .exc ⟨0, [(kd : Int), (((p ++ b :: r).length - rest'.length : Nat) : Int)]⟩ σ' m' := by
        intro kd rest2 m' hev hrs
        rw [hrs]
        rw [s_exX (e_appX (v := 1) rfl hL hev), SR.then_exc, SR.then_exc]
        exact ⟨_, _, rfl⟩
      by_cases h92 : b = 92
      · subst h92
        have ee : ∀ M : Mu, M = m ++ [lstO (nD acc)] → evE (run dfs (n + 4)) [some (.h k), some (.h L), some (.d (.int ((92 : Nat) : Int)))] M stE = run dfs (n + 4) i_Source_escape [.h k] M := by
          intro M hM
          subst hM
          simp only [decide_true] at c4
          rw [e_ife c4, if_pos rfl, e_meth0 rfl hkM]
        cases r with
        | nil =>
          obtain ⟨m', h⟩ := r_escape0 n hkM (by simpa using hl)
          refine bad 1 [] m' ?_ ?_
          · rw [ee _ rfl, h]; rfl
          · rfl
        | cons e r2 =>
          have h := r_escape n hkM hl
          have hrs : Kh450.readString (fs + 1) (92 :: e :: r2) = match Kh450.readEscape (e :: r2) with
              | none => .error 3 (92 :: e :: r2)
              | some (c, rest) => (Kh450.readString fs rest).bind fun codes rest => .ok (c :: codes) rest := rfl
          cases hre : Kh450.readEscape (e :: r2) with
          | none =>
            rw [hre] at h hrs
            obtain ⟨m', h⟩ := h
            refine bad 3 (92 :: e :: r2) m' ?_ hrs
            rw [ee _ rfl, h]
            have e9 : (p ++ 92 :: e :: r2).length - (92 :: e :: r2).length = p.length := by simp
            rw [e9]; rfl
          | some cr =>
            obtain ⟨c, rest2⟩ := cr
            rw [hre] at h hrs
            refine go c rest2 ?_ (by rw [ee _ rfl]; exact h) hrs
            -- what is left is an end of it
            have suf : ∃ q : List Nat, e :: r2 = q ++ rest2 := by
              rw [re_eq] at hre
              cases hesc : escL e with
              | some c' =>
                rw [hesc] at hre
                cases hre
                exact ⟨[e], rfl⟩
              | none =>
                rw [hesc] at hre
                dsimp only at hre
                split at hre
                · split at hre
                  · rename_i _ hh
                    cases r2 with
                    | nil => cases hh
                    | cons b' r3 =>
                      rw [List.drop_one, List.tail_cons] at hre
                      unfold hexRead at hre
                      split at hre
                      · split at hre
                        · simp only [Option.some.injEq, Prod.mk.injEq] at hre
                          obtain ⟨_, rfl⟩ := hre
                          have happ := tw_app isHex r3
                          have hd : (Kh450.takeWhile isHex r3).2 = (Kh450.takeWhile isHex r3).2.take 1 ++ (Kh450.takeWhile isHex r3).2.drop 1 := (List.take_append_drop 1 _).symm
                          refine ⟨e :: b' :: ((Kh450.takeWhile isHex r3).1 ++ (Kh450.takeWhile isHex r3).2.take 1), ?_⟩
                          rw [List.cons_append, List.cons_append, List.append_assoc, ← hd, happ]
                        · cases hre
                      · cases hre
                  · cases hre
                · cases hre
            obtain ⟨q, hq⟩ := suf
            exact ⟨92 :: q, by rw [List.cons_append, ← hq], by simp⟩
      · have ee : evE (run dfs (n + 4)) [some (.h k), some (.h L), some (.d (.int (b : Int)))] (m ++ [lstO (nD acc)]) stE = run dfs (n + 4) i_Source_character [.h k] (m ++ [lstO (nD acc)]) := by
          simp only [h92, decide_false] at c4
          rw [e_ife c4, if_neg (by simp), e_meth0 rfl hkM]
        have h := r_character (n + 1) hkM hl
        have hrs : Kh450.readString (fs + 1) (b :: r) = if b < 32 then .error 2 (b :: r) else match Kh450.decodeUtf8 (b :: r) with
            | none => .error 4 (b :: r)
            | some (c, rest) => (Kh450.readString fs rest).bind fun codes rest => .ok (c :: codes) rest := by
          show (if b = 34 then _ else if b = 92 then _ else _) = _
          rw [if_neg h34, if_neg h92]
          rfl
        rw [dec_dU] at hrs
        have e9 : (((p ++ b :: r).length - (b :: r).length : Nat) : Int) = (p.length : Int) := by
          have : (p ++ b :: r).length - (b :: r).length = p.length := by simp
          rw [this]
        by_cases h32 : b < 32
        · rw [if_pos h32] at h hrs
          refine bad 2 (b :: r) (m ++ [lstO (nD acc)]) ?_ hrs
          rw [ee, h, e9]; rfl
        · rw [if_neg h32] at h hrs
          cases hd : dec b r with
          | none =>
            rw [hd] at h hrs
            refine bad 4 (b :: r) (m ++ [lstO (nD acc)]) ?_ hrs
            rw [ee, h, e9]; rfl
          | some cr =>
            obtain ⟨c, rest2⟩ := cr
            rw [hd] at h hrs
            obtain ⟨q, q1, q2, _⟩ := dec_cut hd
            exact go c rest2 ⟨q, q1, q2⟩ (by rw [ee]; exact h) hrs
theorem r_string (n : Nat) {m : Mu} {k : Nat} {p r : List Nat} (hk : m[k]? = some (src (p ++ 34 :: r) p.length)) (hl : (p ++ 34 :: r).length < 999999) :
    match Kh450.readString r.length r with
    | .ok t rest' => run dfs (n + 5) i_Source_string [.h k] m = .ok (.d (.tup (nD t))) (m.set k (src (p ++ 34 :: r) ((p ++ 34 :: r).length - rest'.length)))
    | .error kd rest' => ∃ m', run dfs (n + 5) i_Source_string [.h k] m = .exc ⟨0, [(kd : Int), (((p ++ 34 :: r).length - rest'.length : Nat) : Int)]⟩ m' := by
  rw [run_at (d := f_Source_string) rfl]
  have st : runD (run dfs (n + 4)) f_Source_string [.h k] m = endS m.length (evSs (run dfs (n + 4)) [some (.h k), none, none] m b_Source_string) := rfl
  rw [st]
  unfold b_Source_string
  have hkl : k < m.length := (List.getElem?_eq_some_iff.mp hk).1
  have s1 : evS (run dfs (n + 4)) [some (.h k), none, none] m (.asg 1 (.lstM .nil)) = .next [some (.h k), some (.h m.length), none] (m ++ [lstO (nD [])]) := by
    simp [evS, evE, evEs, allD, guardR, newR, nD]
  have s2 := s_aug1 (C := run dfs (n + 4)) (σ := [some (.h k), some (.h m.length), none]) (v := 0) rfl (at_app (y := [lstO (nD [])]) hk)
  rw [set_app hkl] at s2
  have eL : p ++ 34 :: r = (p ++ [34]) ++ r := by simp
  have eN : p.length + 1 = (p ++ [34]).length := by simp
  have hk2 : (m.set k (src (p ++ 34 :: r) (p.length + 1)))[k]? = some (src ((p ++ [34]) ++ r) (p ++ [34]).length) := by rw [set_at hk, eL, eN]
  have hL2 : (m.set k (src (p ++ 34 :: r) (p.length + 1))).length = m.length := by rw [List.length_set]
  have lp := st_loop n k m.length r.length r (p ++ [34]) _ [] none turns hL2 hk2 (by rw [← eL]; exact hl) (by simp) (Nat.le_refl _) (by unfold turns; simp at hl; omega)
  rw [← eL] at lp
  simp only [List.set_set] at lp
  rw [evSs_cons, s1, SR.then_next, evSs_cons, s2, SR.then_next, evSs_cons, evS]
  cases hz : Kh450.readString r.length r with
  | ok t rest' =>
    rw [hz] at lp
    obtain ⟨σ', lp⟩ := lp
    dsimp only
    rw [lp, SR.then_ret]
    show Res.ok _ (((m.set k (src (p ++ 34 :: r) ((p ++ 34 :: r).length - rest'.length))) ++ [lstO (nD ([] ++ t))]).take m.length) = _
    rw [List.take_append_of_le_length (by simp), List.take_of_length_le (by simp), List.nil_append]
  | error kd rest' =>
    rw [hz] at lp
    obtain ⟨σ', m', lp⟩ := lp
    dsimp only
    rw [lp, SR.then_exc]
    exact ⟨_, rfl⟩
end UT
end Cn

namespace Cn
namespace UT
mutual
/-- an expression as the code holds it -/
def nodeD : Kh450.Node → D
  | .symbol p n => .tup [.str n, .int (p : Int)]
  | .integer p n => .tup [.int (n : Int), .int (p : Int)]
  | .string p t => .tup [.tup (nD t), .int (p : Int)]
  | .list p is => .tup [.lst (nodesD is), .int (p : Int)]
def nodesD : List Kh450.Node → List D
  | [] => []
  | x :: r => nodeD x :: nodesD r
end
theorem nodesD_map : ∀ l : List Kh450.Node, nodesD l = l.map nodeD
  | [] => rfl
  | x :: r => by rw [nodesD, nodesD_map r]; rfl
theorem esc_suf {e : Nat} {r2 : List Nat} {c : Nat} {rest2 : List Nat} (hre : Kh450.readEscape (e :: r2) = some (c, rest2)) : ∃ q : List Nat, e :: r2 = q ++ rest2 := by
  rw [re_eq] at hre
  cases hesc : escL e with
  | some c' =>
    rw [hesc] at hre
    cases hre
    exact ⟨[e], rfl⟩
  | none =>
    rw [hesc] at hre
    dsimp only at hre
    split at hre
    · split at hre
      · rename_i _ hh
        cases r2 with
        | nil => cases hh
        | cons b' r3 =>
          rw [List.drop_one, List.tail_cons] at hre
          unfold hexRead at hre
          split at hre
          · split at hre
            · simp only [Option.some.injEq, Prod.mk.injEq] at hre
              obtain ⟨_, rfl⟩ := hre
              have happ := tw_app isHex r3
              have hd : (Kh450.takeWhile isHex r3).2 = (Kh450.takeWhile isHex r3).2.take 1 ++ (Kh450.takeWhile isHex r3).2.drop 1 := (List.take_append_drop 1 _).symm
              refine ⟨e :: b' :: ((Kh450.takeWhile isHex r3).1 ++ (Kh450.takeWhile isHex r3).2.take 1), ?_⟩
              rw [List.cons_append, List.cons_append, List.append_assoc, ← hd, happ]
            · cases hre
          · cases hre
      · cases hre
    · cases hre
theorem str_suf : ∀ (fs : Nat) (r : List Nat) (t rest : List Nat), Kh450.readString fs r = .ok t rest → ∃ q : List Nat, r = q ++ rest ∧ t.length < q.length
  | fs, [], t, rest, h => by cases fs <;> cases h
  | 0, b :: r, t, rest, h => by cases h
  | fs + 1, b :: r, t, rest, h => by
    have go : ∀ c rest2, (Kh450.readString fs rest2).bind (fun codes rest => Kh450.Read.ok (c :: codes) rest) = .ok t rest → ∃ q : List Nat, rest2 = q ++ rest ∧ t.length ≤ q.length := by
      intro c rest2 h
      cases hz : Kh450.readString fs rest2 with
      | ok u w =>
        rw [hz] at h
        simp only [Kh450.Read.bind, Kh450.Read.ok.injEq] at h
        obtain ⟨rfl, rfl⟩ := h
        obtain ⟨q, e, hl⟩ := str_suf fs rest2 u w hz
        exact ⟨q, e, hl⟩
      | error k w =>
        rw [hz] at h
        simp [Kh450.Read.bind] at h
    by_cases h34 : b = 34
    · have hq : Kh450.readString (fs + 1) (b :: r) = .ok [] r := by
        show (if b = 34 then _ else _) = _
        rw [if_pos h34]
      rw [hq] at h
      cases h
      exact ⟨[b], rfl, by simp⟩
    · by_cases h92 : b = 92
      · subst h92
        cases r with
        | nil => cases h
        | cons e r2 =>
          have hrs : Kh450.readString (fs + 1) (92 :: e :: r2) = match Kh450.readEscape (e :: r2) with
              | none => .error 3 (92 :: e :: r2)
              | some (c, rest) => (Kh450.readString fs rest).bind fun codes rest => .ok (c :: codes) rest := rfl
          rw [hrs] at h
          cases hre : Kh450.readEscape (e :: r2) with
          | none => rw [hre] at h; cases h
          | some cr =>
            obtain ⟨c, rest2⟩ := cr
            rw [hre] at h
            obtain ⟨q1, e1⟩ := esc_suf hre
            obtain ⟨q2, e2, l2⟩ := go c rest2 h
            exact ⟨92 :: (q1 ++ q2), by rw [e1, e2]; simp, by simp; omega⟩
      · have hrs : Kh450.readString (fs + 1) (b :: r) = if b < 32 then .error 2 (b :: r) else match Kh450.decodeUtf8 (b :: r) with
            | none => .error 4 (b :: r)
            | some (c, rest) => (Kh450.readString fs rest).bind fun codes rest => .ok (c :: codes) rest := by
          show (if b = 34 then _ else if b = 92 then _ else _) = _
          rw [if_neg h34, if_neg h92]
          rfl
        rw [hrs] at h
        split at h
        · cases h
        · rw [dec_dU] at h
          cases hd : dec b r with
          | none => rw [hd] at h; cases h
          | some cr =>
            obtain ⟨c, rest2⟩ := cr
            rw [hd] at h
            obtain ⟨q, q1, q2, _⟩ := dec_cut hd
            obtain ⟨q3, e3, l3⟩ := go c rest2 h
            exact ⟨q ++ q3, by rw [q1, e3]; simp, by simp; omega⟩
theorem leaf_d {total d b : Nat} {r : List Nat} (h : b ≠ 40) : Kh450.readNode total d (b :: r) = Kh450.readNode total 0 (b :: r) := by
  cases d with
  | zero => rfl
  | succ d =>
    unfold Kh450.readNode
    simp only [if_neg h]
theorem leaf_suf {total b : Nat} {r : List Nat} {nd : Kh450.Node} {rest : List Nat} (h : Kh450.readNode total 0 (b :: r) = .ok nd rest) : ∃ q : List Nat, b :: r = q ++ rest ∧ 0 < q.length := by
  unfold Kh450.readNode at h
  dsimp only at h
  split at h
  · cases h
  · split at h
    · cases hz : Kh450.readString r.length r with
      | ok u w =>
        rw [hz] at h
        simp only [Kh450.Read.bind, Kh450.Read.ok.injEq] at h
        obtain ⟨_, rfl⟩ := h
        obtain ⟨q, e, _⟩ := str_suf _ r u w hz
        exact ⟨b :: q, by rw [e]; rfl, by simp⟩
      | error k w =>
        rw [hz] at h
        simp [Kh450.Read.bind] at h
    · split at h
      · rename_i hb
        split at h
        · cases h
        · simp only [Kh450.Read.ok.injEq] at h
          obtain ⟨_, rfl⟩ := h
          have e := tw_app Kh450.isDigit (b :: r)
          refine ⟨_, e.symm, ?_⟩
          rw [tw_t hb]; simp
      · split at h
        · rename_i hb
          simp only [Kh450.Read.ok.injEq] at h
          obtain ⟨_, rfl⟩ := h
          have e := tw_app Kh450.isSymbolPart (b :: r)
          refine ⟨_, e.symm, ?_⟩
          rw [tw_t (by simp [Kh450.isSymbolPart, hb])]; simp
        · cases h
/-- the reading machine: what is to be read, the open lists' places with what lies outside of them, the list that is read -/
def mach (total : Nat) : Nat → List Nat → List (Nat × List D) → List D → Kh450.Read (List D)
  | 0, bs, _, _ => .error 1 bs
  | f + 1, [], [], cur => .ok cur []
  | f + 1, [], s :: st, cur => .error 1 []
  | f + 1, b :: r, st, cur =>
    if Kh450.isSpace b = true then mach total f r st cur
    else if b = 59 then mach total f (dropC r) st cur
    else if b = 40 then (if st.length < 16 then mach total f r ((total - (b :: r).length, cur) :: st) [] else .error 6 (b :: r))
    else if b = 41 then (match st with
      | [] => .error 2 (b :: r)
      | s :: st => mach total f r st (s.2 ++ [.tup [.lst cur, .int (s.1 : Int)]]))
    else match Kh450.readNode total 0 (b :: r) with
      | .ok nd rest => mach total f rest st (cur ++ [nodeD nd])
      | .error k rest => .error k rest
theorem leaf_len {total b : Nat} {r : List Nat} {nd : Kh450.Node} {rest : List Nat} (h : Kh450.readNode total 0 (b :: r) = .ok nd rest) : rest.length < (b :: r).length := by
  obtain ⟨q, e, hq⟩ := leaf_suf h
  rw [e, List.length_append]; omega
theorem mach_fuel (total : Nat) : ∀ (f g : Nat) (bs : List Nat) (st : List (Nat × List D)) (cur : List D), bs.length < f → bs.length < g → mach total f bs st cur = mach total g bs st cur
  | 0, g, bs, st, cur, hf, hg => by omega
  | f + 1, 0, bs, st, cur, hf, hg => by omega
  | f + 1, g + 1, [], [], cur, hf, hg => rfl
  | f + 1, g + 1, [], s :: st, cur, hf, hg => rfl
  | f + 1, g + 1, b :: r, st, cur, hf, hg => by
    simp only [List.length_cons] at hf hg
    have hd := dropC_len r
    unfold mach
    rw [mach_fuel total f g r st cur (by omega) (by omega), mach_fuel total f g (dropC r) st cur (by omega) (by omega), mach_fuel total f g r _ [] (by omega) (by omega)]
    congr 3
    congr 1
    · cases st with
      | nil => rfl
      | cons s st => exact mach_fuel total f g r st _ (by omega) (by omega)
    · cases hz : Kh450.readNode total 0 (b :: r) with
      | ok nd rest =>
        have := leaf_len hz
        simp only [List.length_cons] at this
        exact mach_fuel total f g rest st _ (by omega) (by omega)
      | error k rest => rfl
theorem skip_t : ∀ r : List Nat, Kh450.skipSpace true r = Kh450.skipSpace false (dropC r)
  | [] => rfl
  | b :: r => by
    by_cases h : b = 10
    · subst h; rfl
    · have h1 : Kh450.skipSpace true (b :: r) = Kh450.skipSpace (b != 10) r := rfl
      have h2 : (b != 10) = true := by simp [h]
      have h3 : dropC (b :: r) = dropC r := by
        show (if b = 10 then _ else _) = _
        rw [if_neg h]
      rw [h1, h2, h3, skip_t r]
theorem skip_len : ∀ (r : List Nat) (c : Bool), (Kh450.skipSpace c r).length ≤ r.length
  | [], c => Nat.le_refl _
  | b :: r, c => by
    unfold Kh450.skipSpace
    split
    · exact Nat.le_succ_of_le (skip_len r _)
    · split
      · exact Nat.le_succ_of_le (skip_len r _)
      · split
        · exact Nat.le_succ_of_le (skip_len r _)
        · exact Nat.le_refl _
theorem skip_head : ∀ (r : List Nat) (c : Bool) {b : Nat} {s : List Nat}, Kh450.skipSpace c r = b :: s → Kh450.isSpace b = false ∧ b ≠ 59
  | [], c, b, s, h => by cases h
  | a :: r, c, b, s, h => by
    unfold Kh450.skipSpace at h
    split at h
    · exact skip_head r _ h
    · split at h
      · exact skip_head r _ h
      · split at h
        · exact skip_head r _ h
        · rename_i h2 h3
          cases h
          exact ⟨by simpa using h2, h3⟩
theorem mach_skip (total : Nat) (st : List (Nat × List D)) (cur : List D) : ∀ (n : Nat) (bs : List Nat), bs.length ≤ n → ∀ f g, bs.length < f → (Kh450.skipSpace false bs).length < g → mach total f bs st cur = mach total g (Kh450.skipSpace false bs) st cur
  | n, [], hn, f, g, hf, hg => mach_fuel total f g [] st cur hf hg
  | 0, b :: r, hn, f, g, hf, hg => by simp at hn
  | n + 1, b :: r, hn, f, g, hf, hg => by
    simp only [List.length_cons] at hn hf
    obtain ⟨f, rfl⟩ : ∃ f', f = f' + 1 := ⟨f - 1, by omega⟩
    have hd := dropC_len r
    by_cases h1 : Kh450.isSpace b = true
    · have e : Kh450.skipSpace false (b :: r) = Kh450.skipSpace false r := by
        show (if Kh450.isSpace b = true then _ else _) = _
        rw [if_pos h1]
      rw [e] at hg ⊢
      have e2 : mach total (f + 1) (b :: r) st cur = mach total f r st cur := by
        conv => lhs; unfold mach
        rw [if_pos h1]
      rw [e2]
      exact mach_skip total st cur n r (by omega) f g (by omega) hg
    · by_cases h2 : b = 59
      · have e : Kh450.skipSpace false (b :: r) = Kh450.skipSpace false (dropC r) := by
          rw [← skip_t]
          show (if Kh450.isSpace b = true then _ else if b = 59 then _ else _) = _
          rw [if_neg h1, if_pos h2]
        rw [e] at hg ⊢
        have e2 : mach total (f + 1) (b :: r) st cur = mach total f (dropC r) st cur := by
          conv => lhs; unfold mach
          rw [if_neg h1, if_pos h2]
        rw [e2]
        exact mach_skip total st cur n (dropC r) (by omega) f g (by omega) hg
      · have e : Kh450.skipSpace false (b :: r) = b :: r := by
          show (if Kh450.isSpace b = true then _ else if b = 59 then _ else _) = _
          rw [if_neg h1, if_neg h2]
        rw [e] at hg ⊢
        exact mach_fuel total _ _ _ st cur (by simp; omega) hg
/-- what is read at a depth -/
def NodeOk (total d : Nat) : Prop := ∀ (b : Nat) (r : List Nat) (st : List (Nat × List D)) (cur : List D), d + st.length = 16 → Kh450.isSpace b = false → b ≠ 59 → b ≠ 41 →
  match Kh450.readNode total d (b :: r) with
  | .ok nd rest => rest.length < (b :: r).length ∧ ∀ f g, (b :: r).length < f → rest.length < g → mach total f (b :: r) st cur = mach total g rest st (cur ++ [nodeD nd])
  | .error k rest => ∀ f, (b :: r).length < f → mach total f (b :: r) st cur = .error k rest
theorem list_ok (total d : Nat) (hd : NodeOk total d) (st : List (Nat × List D)) (pl : Nat) (o : List D) (hst : d + (st.length + 1) = 16) : ∀ (g : Nat) (bs : List Nat) (cur : List D), bs.length < g →
    match Kh450.readList (Kh450.readNode total d) g bs with
    | .ok nds rest => rest.length < bs.length ∧ ∀ f h, bs.length < f → rest.length < h → mach total f bs ((pl, o) :: st) cur = mach total h rest st (o ++ [.tup [.lst (cur ++ nds.map nodeD), .int (pl : Int)]])
    | .error k rest => ∀ f, bs.length < f → mach total f bs ((pl, o) :: st) cur = .error k rest
  | 0, bs, cur, hg => by omega
  | g + 1, bs, cur, hg => by
    have hl := skip_len bs false
    have hm := fun f h => mach_skip total ((pl, o) :: st) cur bs.length bs (Nat.le_refl _) f h
    cases hs : Kh450.skipSpace false bs with
    | nil =>
      have e : Kh450.readList (Kh450.readNode total d) (g + 1) bs = .error 1 [] := by
        unfold Kh450.readList; rw [hs]
      rw [e]
      dsimp only
      intro f hf
      rw [hm f 1 hf (by rw [hs]; simp), hs]
      rfl
    | cons b r =>
      rw [hs] at hl
      simp only [List.length_cons] at hl
      obtain ⟨hb1, hb2⟩ := skip_head _ _ hs
      by_cases h41 : b = 41
      · subst h41
        have e : Kh450.readList (Kh450.readNode total d) (g + 1) bs = .ok [] r := by
          unfold Kh450.readList; rw [hs]; rfl
        rw [e]
        dsimp only
        refine ⟨by omega, fun f h hf hh => ?_⟩
        rw [hm f (r.length + 2) hf (by rw [hs]; simp), hs]
        have e2 : mach total (r.length + 2) (41 :: r) ((pl, o) :: st) cur = mach total (r.length + 1) r st (o ++ [.tup [.lst cur, .int (pl : Int)]]) := by
          conv => lhs; unfold mach
          simp [hb1]
        rw [e2, List.map_nil, List.append_nil]
        exact mach_fuel total _ _ _ _ _ (by omega) hh
      · have e : Kh450.readList (Kh450.readNode total d) (g + 1) bs = (Kh450.readNode total d (b :: r)).bind fun node rest => (Kh450.readList (Kh450.readNode total d) g rest).bind fun nodes rest => .ok (node :: nodes) rest := by
          conv => lhs; unfold Kh450.readList
          rw [hs]
          split
          · rename_i hh; cases hh
          · rename_i hh; cases hh; exact absurd rfl h41
          · rfl
        rw [e]
        have hn := hd b r ((pl, o) :: st) cur (by simp only [List.length_cons]; omega) hb1 hb2 h41
        cases hz : Kh450.readNode total d (b :: r) with
        | error k rest =>
          rw [hz] at hn
          dsimp only [Kh450.Read.bind] at hn ⊢
          intro f hf
          rw [hm f _ hf (by rw [hs]; exact Nat.lt_succ_self _), hs]
          exact hn _ (Nat.lt_succ_self _)
        | ok nd rest =>
          rw [hz] at hn
          dsimp only [Kh450.Read.bind] at hn ⊢
          obtain ⟨hn1, hn2⟩ := hn
          simp only [List.length_cons] at hn1
          have ih := list_ok total d hd st pl o hst g rest (cur ++ [nodeD nd]) (by omega)
          cases hy : Kh450.readList (Kh450.readNode total d) g rest with
          | error k rest2 =>
            rw [hy] at ih
            dsimp only at ih ⊢
            intro f hf
            rw [hm f _ hf (by rw [hs]; exact Nat.lt_succ_self _), hs, hn2 _ (rest.length + 1) (Nat.lt_succ_self _) (by omega)]
            exact ih _ (by omega)
          | ok nds rest2 =>
            rw [hy] at ih
            dsimp only at ih ⊢
            obtain ⟨ih1, ih2⟩ := ih
            refine ⟨by omega, fun f h hf hh => ?_⟩
            rw [hm f _ hf (by rw [hs]; exact Nat.lt_succ_self _), hs, hn2 _ (rest.length + 1) (Nat.lt_succ_self _) (by omega), ih2 _ h (by omega) hh]
            simp
theorem mach_leaf {total f b : Nat} {r : List Nat} {st : List (Nat × List D)} {cur : List D} (h1 : Kh450.isSpace b = false) (h2 : b ≠ 59) (h3 : b ≠ 40) (h4 : b ≠ 41) : mach total (f + 1) (b :: r) st cur = match Kh450.readNode total 0 (b :: r) with
      | .ok nd rest => mach total f rest st (cur ++ [nodeD nd])
      | .error k rest => .error k rest := by
  conv => lhs; unfold mach
  rw [if_neg (by simp [h1]), if_neg h2, if_neg h3, if_neg h4]
theorem node_ok (total : Nat) : ∀ d, NodeOk total d := by
  intro d
  have leafs : ∀ (b : Nat) (r : List Nat) (st : List (Nat × List D)) (cur : List D), Kh450.isSpace b = false → b ≠ 59 → b ≠ 41 → b ≠ 40 →
      match Kh450.readNode total d (b :: r) with
      | .ok nd rest => rest.length < (b :: r).length ∧ ∀ f g, (b :: r).length < f → rest.length < g → mach total f (b :: r) st cur = mach total g rest st (cur ++ [nodeD nd])
      | .error k rest => ∀ f, (b :: r).length < f → mach total f (b :: r) st cur = .error k rest := by
    intro b r st cur h1 h2 h3 h4
    rw [leaf_d h4]
    cases hz : Kh450.readNode total 0 (b :: r) with
    | ok nd rest =>
      have hll := leaf_len hz
      refine ⟨hll, fun f g hf hg => ?_⟩
      obtain ⟨f, rfl⟩ : ∃ f', f = f' + 1 := ⟨f - 1, by omega⟩
      rw [mach_leaf h1 h2 h4 h3, hz]
      exact mach_fuel total _ _ _ _ _ (by omega) hg
    | error k rest =>
      intro f hf
      obtain ⟨f, rfl⟩ : ∃ f', f = f' + 1 := ⟨f - 1, by omega⟩
      rw [mach_leaf h1 h2 h4 h3, hz]
  induction d with
  | zero =>
    intro b r st cur hd h1 h2 h3
    by_cases h4 : b = 40
    · subst h4
      have e : Kh450.readNode total 0 (40 :: r) = .error 6 (40 :: r) := rfl
      rw [e]
      dsimp only
      intro f hf
      obtain ⟨f, rfl⟩ : ∃ f', f = f' + 1 := ⟨f - 1, by omega⟩
      unfold mach
      rw [if_neg (by simp [h1]), if_neg h2, if_pos rfl, if_neg (by omega)]
    · exact leafs b r st cur h1 h2 h3 h4
  | succ d ih =>
    have ih := ih (by
      intro b r st cur h1 h2 h3 h4
      have := leafs b r st cur h1 h2 h3 h4
      rw [leaf_d h4] at this ⊢
      exact this)
    intro b r st cur hd h1 h2 h3
    by_cases h4 : b = 40
    · subst h4
      have e : Kh450.readNode total (d + 1) (40 :: r) = (Kh450.readList (Kh450.readNode total d) (40 :: r).length r).bind fun items rest => .ok (.list (total - (40 :: r).length) items) rest := rfl
      rw [e]
      have hm : ∀ f, mach total (f + 1) (40 :: r) st cur = mach total f r ((total - (40 :: r).length, cur) :: st) [] := by
        intro f
        conv => lhs; unfold mach
        rw [if_neg (by simp [h1]), if_neg h2, if_pos rfl, if_pos (by omega)]
      have hl := list_ok total d ih st (total - (40 :: r).length) cur (by omega) (40 :: r).length r [] (by simp)
      cases hz : Kh450.readList (Kh450.readNode total d) (40 :: r).length r with
      | error k rest =>
        rw [hz] at hl
        dsimp only [Kh450.Read.bind] at hl ⊢
        intro f hf
        obtain ⟨f, rfl⟩ : ∃ f', f = f' + 1 := ⟨f - 1, by omega⟩
        rw [hm]
        exact hl f (by simp at hf; omega)
      | ok nds rest =>
        rw [hz] at hl
        dsimp only [Kh450.Read.bind] at hl ⊢
        obtain ⟨hl1, hl2⟩ := hl
        refine ⟨by simp; omega, fun f g hf hg => ?_⟩
        obtain ⟨f, rfl⟩ : ∃ f', f = f' + 1 := ⟨f - 1, by omega⟩
        rw [hm, hl2 f g (by simp at hf; omega) hg, nodeD, nodesD_map, List.nil_append]
    · exact leafs b r st cur h1 h2 h3 h4
theorem all_ok (total : Nat) : ∀ (g : Nat) (bs : List Nat) (cur : List D), bs.length < g →
    match Kh450.readAllLoop total g bs with
    | .ok nds rest => rest = [] ∧ ∀ f, bs.length < f → mach total f bs [] cur = .ok (cur ++ nds.map nodeD) []
    | .error k rest => ∀ f, bs.length < f → mach total f bs [] cur = .error k rest
  | 0, bs, cur, hg => by omega
  | g + 1, bs, cur, hg => by
    have hl := skip_len bs false
    have hm := fun f h => mach_skip total [] cur bs.length bs (Nat.le_refl _) f h
    cases hs : Kh450.skipSpace false bs with
    | nil =>
      have e : Kh450.readAllLoop total (g + 1) bs = .ok [] [] := by
        unfold Kh450.readAllLoop; rw [hs]
      rw [e]
      dsimp only
      refine ⟨rfl, fun f hf => ?_⟩
      rw [hm f 1 hf (by rw [hs]; simp), hs]
      simp [mach]
    | cons b r =>
      rw [hs] at hl
      simp only [List.length_cons] at hl
      obtain ⟨hb1, hb2⟩ := skip_head _ _ hs
      have e : Kh450.readAllLoop total (g + 1) bs = (Kh450.readNode total 16 (b :: r)).bind fun node rest => (Kh450.readAllLoop total g rest).bind fun nodes rest => .ok (node :: nodes) rest := by
        conv => lhs; unfold Kh450.readAllLoop
        rw [hs]
        rfl
      rw [e]
      by_cases h41 : b = 41
      · subst h41
        have e2 : Kh450.readNode total 16 (41 :: r) = .error 2 (41 :: r) := by
          rw [leaf_d (by decide)]; rfl
        rw [e2]
        dsimp only [Kh450.Read.bind]
        intro f hf
        rw [hm f (r.length + 2) hf (by rw [hs]; simp), hs]
        unfold mach
        simp [hb1]
      · have hn := node_ok total 16 b r [] cur rfl hb1 hb2 h41
        cases hz : Kh450.readNode total 16 (b :: r) with
        | error k rest =>
          rw [hz] at hn
          dsimp only [Kh450.Read.bind] at hn ⊢
          intro f hf
          rw [hm f _ hf (by rw [hs]; exact Nat.lt_succ_self _), hs]
          exact hn _ (Nat.lt_succ_self _)
        | ok nd rest =>
          rw [hz] at hn
          dsimp only [Kh450.Read.bind] at hn ⊢
          obtain ⟨hn1, hn2⟩ := hn
          simp only [List.length_cons] at hn1
          have ih := all_ok total g rest (cur ++ [nodeD nd]) (by omega)
          cases hy : Kh450.readAllLoop total g rest with
          | error k rest2 =>
            rw [hy] at ih
            dsimp only at ih ⊢
            intro f hf
            rw [hm f _ hf (by rw [hs]; exact Nat.lt_succ_self _), hs, hn2 _ (rest.length + 1) (Nat.lt_succ_self _) (by omega)]
            exact ih _ (by omega)
          | ok nds rest2 =>
            rw [hy] at ih
            dsimp only at ih ⊢
            obtain ⟨ih1, ih2⟩ := ih
            refine ⟨ih1, fun f hf => ?_⟩
            rw [hm f _ hf (by rw [hs]; exact Nat.lt_succ_self _), hs, hn2 _ (rest.length + 1) (Nat.lt_succ_self _) (by omega), ih2 _ (by omega)]
            simp
/-- the machine reads what the notation says -/
theorem mach_all (row : List Nat) : mach row.length (row.length + 1) row [] [] = match Kh450.readAll row with
    | .ok nds _ => .ok (nds.map nodeD) []
    | .error k rest => .error k rest := by
  have h := all_ok row.length (row.length + 1) row [] (Nat.lt_succ_self _)
  have e : Kh450.readAll row = Kh450.readAllLoop row.length (row.length + 1) row := rfl
  rw [e]
  cases hz : Kh450.readAllLoop row.length (row.length + 1) row with
  | ok nds rest =>
    rw [hz] at h
    exact h.2 _ (Nat.lt_succ_self _)
  | error k rest =>
    rw [hz] at h
    exact h _ (Nat.lt_succ_self _)
end UT
end Cn

namespace Cn
namespace UT
section
variable {C : Calls} {σ : Sl} {m : Mu}
theorem s_ret {e : E} {w : W} {m1 : Mu} (h : evE C σ m e = .ok w m1) : evS C σ m (.ret e) = .ret w σ m1 := by
  simp only [evS, h, Res.toS_ok]
theorem s_retX {e : E} {x : Xn} {m1 : Mu} (h : evE C σ m e = .exc x m1) : evS C σ m (.ret e) = .exc x σ m1 := by
  simp only [evS, h, Res.toS_exc]
end
/-- a value: no list, no space, no remark -/
theorem r_read_value (n : Nat) {m : Mu} {k : Nat} {p r : List Nat} {b : Nat} (h40 : b ≠ 40) (hk : m[k]? = some (src (p ++ b :: r) p.length)) (hl : (p ++ b :: r).length < 999999) :
    match Kh450.readNode (p ++ b :: r).length 0 (b :: r) with
    | .ok nd rest => ∃ d, nodeD nd = .tup [d, .int (p.length : Int)] ∧ run dfs (n + 6) i_read_value [.h k] m = .ok (.d d) (m.set k (src (p ++ b :: r) ((p ++ b :: r).length - rest.length)))
    | .error kd rest => ∃ m', run dfs (n + 6) i_read_value [.h k] m = .exc ⟨0, [(kd : Int), (((p ++ b :: r).length - rest.length : Nat) : Int)]⟩ m' := by
  rw [run_at (d := f_read_value) rfl]
  have st : runD (run dfs (n + 5)) f_read_value [.h k] m = endS m.length (evSs (run dfs (n + 5)) [some (.h k), none] m b_read_value) := rfl
  rw [st]
  unfold b_read_value
  have hpos : (p ++ b :: r).length - (b :: r).length = p.length := by simp
  have s1 := s_asg (i := 1) (e_byte (C := run dfs (n + 5)) (σ := [some (.h k), none]) (v := 0) rfl hk)
  rw [evSs_cons, s1, SR.then_next, evSs_cons]
  show match Kh450.readNode (p ++ b :: r).length 0 (b :: r) with
    | .ok nd rest => ∃ d, nodeD nd = .tup [d, .int (p.length : Int)] ∧ endS m.length ((evS (run dfs (n + 5)) [some (.h k), some (.d (.int (b : Int)))] m _).then _) = .ok (.d d) (m.set k (src (p ++ b :: r) ((p ++ b :: r).length - rest.length)))
    | .error kd rest => ∃ m', endS m.length ((evS (run dfs (n + 5)) [some (.h k), some (.d (.int (b : Int)))] m _).then _) = .exc ⟨0, [(kd : Int), (((p ++ b :: r).length - rest.length : Nat) : Int)]⟩ m'
  have c1 := e_cmp (C := run dfs (n + 5)) (σ := [some (.h k), some (.d (.int (b : Int)))]) (m := m) (o := .eq) (e_var (v := 1) rfl) (e_gi "QUOTE" 34)
  rw [cmp_eq, bl_ok] at c1
  have hv : ([some (.h k), some (.d (.int (b : Int)))] : Sl)[0]? = some (some (.h k)) := rfl
  by_cases h34 : b = 34
  · subst h34
    have e : Kh450.readNode (p ++ 34 :: r).length 0 (34 :: r) = (Kh450.readString r.length r).bind fun content rest => .ok (.string ((p ++ 34 :: r).length - (34 :: r).length) content) rest := rfl
    rw [e, hpos]
    have h := r_string n hk hl
    rw [s_if c1, if_pos (by simp), evSs_cons]
    cases hz : Kh450.readString r.length r with
    | ok t rest =>
      rw [hz] at h
      dsimp only [Kh450.Read.bind] at h ⊢
      refine ⟨.tup (nD t), by rw [nodeD], ?_⟩
      rw [s_ret ((e_meth0 hv hk).trans h), SR.then_ret, SR.then_ret]
      show Res.ok _ _ = _
      rw [take_set]
    | error kd rest =>
      rw [hz] at h
      dsimp only [Kh450.Read.bind] at h ⊢
      obtain ⟨m', h⟩ := h
      rw [s_retX ((e_meth0 hv hk).trans h), SR.then_exc, SR.then_exc]
      exact ⟨_, rfl⟩
  · have h34' : ¬ (b : Int) = 34 := by omega
    rw [s_if c1, if_neg (by simpa using h34'), evSs_nil, SR.then_next, evSs_cons]
    have c2 := e_call1 (C := run dfs (n + 5)) (f := i_is_figure) (σ := [some (.h k), some (.d (.int (b : Int)))]) (m := m) (e_var (v := 1) rfl)
    rw [r_is_figure] at c2
    by_cases hd : Kh450.isDigit b = true
    · have h := r_integer (n + 3) hd hk hl
      have e : Kh450.readNode (p ++ b :: r).length 0 (b :: r) = if 6 < (Kh450.takeWhile Kh450.isDigit (b :: r)).1.length ∨ (1 < (Kh450.takeWhile Kh450.isDigit (b :: r)).1.length ∧ b = 48) then .error 5 (b :: r)
        else .ok (.integer ((p ++ b :: r).length - (b :: r).length) (dec10 0 (Kh450.takeWhile Kh450.isDigit (b :: r)).1)) (Kh450.takeWhile Kh450.isDigit (b :: r)).2 := by
        conv => lhs; unfold Kh450.readNode
        simp only [if_neg h40, if_neg h34, if_pos hd]
      rw [e, hpos]
      rw [s_if c2, if_pos hd, evSs_cons]
      by_cases hc : 6 < (Kh450.takeWhile Kh450.isDigit (b :: r)).1.length ∨ (1 < (Kh450.takeWhile Kh450.isDigit (b :: r)).1.length ∧ b = 48)
      · rw [if_pos hc] at h ⊢
        dsimp only
        rw [s_retX ((e_meth0 hv hk).trans h), SR.then_exc, SR.then_exc, hpos]
        exact ⟨_, rfl⟩
      · rw [if_neg hc] at h ⊢
        dsimp only
        refine ⟨_, by rw [nodeD], ?_⟩
        rw [s_ret ((e_meth0 hv hk).trans h), SR.then_ret, SR.then_ret]
        show Res.ok _ _ = _
        rw [take_set]
    · rw [s_if c2, if_neg hd, evSs_nil, SR.then_next, evSs_cons]
      have c3 := e_call1 (C := run dfs (n + 5)) (f := i_is_small) (σ := [some (.h k), some (.d (.int (b : Int)))]) (m := m) (e_var (v := 1) rfl)
      rw [r_is_small] at c3
      have c4 := e_call3 (f := i_check_place) c3 (e_gi "UNEXPECTED" 2) (e_at (v := 0) hv hk)
      rw [r_check] at c4
      by_cases hs : Kh450.isLower b = true
      · have e : Kh450.readNode (p ++ b :: r).length 0 (b :: r) = .ok (.symbol ((p ++ b :: r).length - (b :: r).length) (Kh450.takeWhile Kh450.isSymbolPart (b :: r)).1) (Kh450.takeWhile Kh450.isSymbolPart (b :: r)).2 := by
          conv => lhs; unfold Kh450.readNode
          simp only [if_neg h40, if_neg h34, if_neg hd, if_pos hs]
        rw [e, hpos]
        dsimp only
        rw [if_pos hs] at c4
        rw [s_ex c4, SR.then_next, evSs_cons]
        have h := r_symbol (n + 3) hk hl
        refine ⟨_, by rw [nodeD], ?_⟩
        rw [s_ret ((e_meth0 hv hk).trans h), SR.then_ret]
        show Res.ok _ _ = _
        rw [take_set]
      · have e : Kh450.readNode (p ++ b :: r).length 0 (b :: r) = .error 2 (b :: r) := by
          conv => lhs; unfold Kh450.readNode
          simp only [if_neg h40, if_neg h34, if_neg hd, if_neg hs]
        rw [e]
        dsimp only
        rw [if_neg hs] at c4
        rw [s_exX c4, SR.then_exc, hpos]
        exact ⟨_, rfl⟩
theorem take_ge {α : Type} {l : List α} {k j : Nat} {x : α} (h : k ≤ j) : (l.set j x).take k = l.take k := by
  apply List.ext_getElem?
  intro i
  by_cases hi : i < k
  · rw [List.getElem?_take_of_lt hi, List.getElem?_take_of_lt hi, List.getElem?_set_ne (by omega)]
  · rw [List.getElem?_eq_none (by simp; omega), List.getElem?_eq_none (by simp; omega)]
/-- the open lists -/
abbrev lsC (fs : List Nat) (inn : List (Option Fo)) : Option Gr := some ⟨.lst (fs.reverse.map U.i), inn⟩
abbrev plC (ps : List Nat) : Option Gr := lstO (ps.reverse.map fun (n : Nat) => D.int (n : Int))
structure Re (M m0 : Mu) (k : Nat) (row : List Nat) (i : Nat) (fs : List Nat) (inn : List (Option Fo)) (ps : List Nat) : Prop where
  len : m0.length = k
  pre : M.take k = m0
  hs : M[k]? = some (src row i)
  hl : M[k + 2]? = some (lsC fs inn)
  hp : M[k + 3]? = some (plC ps)
section
variable {M m0 : Mu} {k : Nat} {row : List Nat} {i : Nat} {fs : List Nat} {inn : List (Option Fo)} {ps : List Nat}
theorem Re.set_s (h : Re M m0 k row i fs inn ps) (j : Nat) : Re (M.set k (src row j)) m0 k row j fs inn ps :=
  ⟨h.len, by rw [take_ge (Nat.le_refl _), h.pre], set_at h.hs, by rw [List.getElem?_set_ne (by omega), h.hl], by rw [List.getElem?_set_ne (by omega), h.hp]⟩
theorem Re.set_l (h : Re M m0 k row i fs inn ps) (fs' : List Nat) (inn' : List (Option Fo)) : Re (M.set (k + 2) (lsC fs' inn')) m0 k row i fs' inn' ps :=
  ⟨h.len, by rw [take_ge (by omega), h.pre], by rw [List.getElem?_set_ne (by omega), h.hs], set_at h.hl, by rw [List.getElem?_set_ne (by omega), h.hp]⟩
theorem Re.set_p (h : Re M m0 k row i fs inn ps) (ps' : List Nat) : Re (M.set (k + 3) (plC ps')) m0 k row i fs inn ps' :=
  ⟨h.len, by rw [take_ge (by omega), h.pre], by rw [List.getElem?_set_ne (by omega), h.hs], by rw [List.getElem?_set_ne (by omega), h.hl], set_at h.hp⟩
theorem Re.big (h : Re M m0 k row i fs inn ps) : k + 3 < M.length := (List.getElem?_eq_some_iff.mp h.hp).1
theorem Re.app (h : Re M m0 k row i fs inn ps) (y : Mu) : Re (M ++ y) m0 k row i fs inn ps :=
  ⟨h.len, by rw [List.take_append_of_le_length (by have := h.big; omega), h.pre], at_app h.hs, at_app h.hl, at_app h.hp⟩
theorem Re.gl (h : Re M m0 k row i fs inn ps) : grAt M (k + 2) = some ⟨.lst (fs.reverse.map U.i), inn⟩ := by
  unfold grAt; rw [h.hl]
theorem Re.rl (h : Re M m0 k row i fs inn ps) : rootAt M (k + 2) = some (.lst (fs.reverse.map U.i)) := by
  unfold rootAt; rw [h.gl]
theorem Re.gp (h : Re M m0 k row i fs inn ps) : grAt M (k + 3) = some ⟨.o (.lst (ps.reverse.map fun (n : Nat) => D.int (n : Int))), []⟩ := by
  unfold grAt; rw [h.hp]
theorem Re.rp (h : Re M m0 k row i fs inn ps) : rootAt M (k + 3) = some (.o (.lst (ps.reverse.map fun (n : Nat) => D.int (n : Int)))) := by
  unfold rootAt; rw [h.gp]
end
theorem at_app' {α : Type} {l : List α} {k : Nat} {x : α} {y : List α} (h : l[k]? = some x) : (l ++ y)[k]? = some x := by
  rw [List.getElem?_append_left (List.getElem?_eq_some_iff.mp h).1, h]
def Okf (inn : List (Option Fo)) : List Nat → List (List D) → Prop
  | [], [] => True
  | f :: fs, a :: as => inn[f]? = some (some (.lst a)) ∧ f ∉ fs ∧ Okf inn fs as
  | _, _ => False
theorem okf_len {inn : List (Option Fo)} : ∀ {fs : List Nat} {as : List (List D)}, Okf inn fs as → fs.length = as.length
  | [], [], _ => rfl
  | [], _ :: _, h => h.elim
  | _ :: _, [], h => h.elim
  | f :: fs, a :: as, h => by rw [List.length_cons, List.length_cons, okf_len h.2.2]
theorem okf_set {inn : List (Option Fo)} {f : Nat} (x : Option Fo) : ∀ {fs : List Nat} {as : List (List D)}, f ∉ fs → Okf inn fs as → Okf (inn.set f x) fs as
  | [], [], _, h => h
  | [], _ :: _, _, h => h.elim
  | _ :: _, [], _, h => h.elim
  | g :: fs, a :: as, hf, h => by
    rw [List.mem_cons, not_or] at hf
    exact ⟨by rw [List.getElem?_set_ne hf.1, h.1], h.2.1, okf_set x hf.2 h.2.2⟩
theorem okf_app {inn : List (Option Fo)} (x : Option Fo) : ∀ {fs : List Nat} {as : List (List D)}, Okf inn fs as → Okf (inn ++ [x]) fs as ∧ ∀ f ∈ fs, f < inn.length
  | [], [], h => ⟨h, by simp⟩
  | [], _ :: _, h => h.elim
  | _ :: _, [], h => h.elim
  | g :: fs, a :: as, h => by
    obtain ⟨ih1, ih2⟩ := okf_app x h.2.2
    have hg := (List.getElem?_eq_some_iff.mp h.1).1
    refine ⟨⟨at_app' h.1, h.2.1, ih1⟩, ?_⟩
    intro f hf
    rcases List.mem_cons.mp hf with rfl | hf
    · exact hg
    · exact ih2 f hf
theorem okf_push {inn : List (Option Fo)} {fs : List Nat} {as : List (List D)} (h : Okf inn fs as) : Okf (inn ++ [some (.lst [])]) (inn.length :: fs) ([] :: as) := by
  obtain ⟨h1, h2⟩ := okf_app (some (.lst [])) h
  refine ⟨by simp, fun hm => ?_, h1⟩
  exact absurd (h2 _ hm) (by omega)
theorem okf_top {inn : List (Option Fo)} {f : Nat} {fs : List Nat} {a : List D} {as : List (List D)} (h : Okf inn (f :: fs) (a :: as)) (a' : List D) : Okf (inn.set f (some (.lst a'))) (f :: fs) (a' :: as) :=
  ⟨List.getElem?_set_self (List.getElem?_eq_some_iff.mp h.1).1, h.2.1, okf_set _ h.2.1 h.2.2⟩
theorem atZ_last {α : Type} (l : List α) (x : α) : atZ (l ++ [x]) (-1) = some x := by
  unfold atZ ixZ
  have e : ((-1 : Int) + ((l ++ [x]).length : Nat)).toNat = l.length := by simp; omega
  rw [if_neg (by omega), if_pos (by simp; omega), e]
  simp
section
variable {M m0 : Mu} {k : Nat} {row : List Nat} {i : Nat} {fs : List Nat} {inn : List (Option Fo)} {ps : List Nat} {f : Nat}
theorem Re.top (h : Re M m0 k row i (f :: fs) inn ps) : ixR M (.h (k + 2)) (.d (.int (-1))) = .ok (.hi (k + 2) f) M := by
  have e : ((f :: fs).reverse.map U.i) = fs.reverse.map U.i ++ [U.i f] := by simp
  simp only [ixR, h.rl, e, atZ_last, toU]
theorem Re.inn_at (h : Re M m0 k row i fs inn ps) {a : List D} (ha : inn[f]? = some (some (.lst a))) : inAt M (k + 2) f = some (.lst a) := by
  unfold inAt
  rw [h.gl]
  dsimp only
  rw [ha]
theorem Re.put (h : Re M m0 k row i fs inn ps) {a : List D} (ha : inn[f]? = some (some (.lst a))) (hl : a.length < line) (x : D) : appR M (.hi (k + 2) f) (.d x) = .ok (.d .non) (M.set (k + 2) (lsC fs (inn.set f (some (.lst (a ++ [x])))))) := by
  have e : foAt M (.hi (k + 2) f) = some (.lst a) := h.inn_at ha
  simp only [appR, appFo, e, hl, decide_true, guardR_true, setFo, setIn, h.gl]
theorem Re.popl (h : Re M m0 k row i (f :: fs) inn ps) : popR M (.h (k + 2)) = .ok (.hi (k + 2) f) (M.set (k + 2) (lsC fs inn)) := by
  have e : ((f :: fs).reverse.map U.i) = fs.reverse.map U.i ++ [U.i f] := by simp
  simp [popR, h.rl, e, toU, setRoot, h.gl, lsC]
theorem Re.popp {pl : Nat} (h : Re M m0 k row i fs inn (pl :: ps)) : popR M (.h (k + 3)) = .ok (.d (.int (pl : Int))) (M.set (k + 3) (plC ps)) := by
  have e : ((pl :: ps).reverse.map fun (n : Nat) => D.int (n : Int)) = (ps.reverse.map fun (n : Nat) => D.int (n : Int)) ++ [D.int (pl : Int)] := by simp
  simp only [popR, h.rp, e, setRoot, h.gp]
  simp [plC, lstO]
theorem Re.done (h : Re M m0 k row i fs inn ps) {a : List D} (ha : inn[f]? = some (some (.lst a))) : fzR M (.hi (k + 2) f) = .ok (.lst a) (M.set (k + 2) (lsC fs (inn.set f none))) := by
  simp only [fzR, h.inn_at ha, Fo.data, setIn, h.gl]
theorem Re.putp (h : Re M m0 k row i fs inn ps) (hl : ps.length < line) (pl : Nat) : appR M (.h (k + 3)) (.d (.int (pl : Int))) = .ok (.d .non) (M.set (k + 3) (plC (pl :: ps))) := by
  simp only [appR, h.rp, appFo, foAt, setFo, setRoot, h.gp]
  rw [guardR_of (by simpa using hl)]
  simp [plC, lstO]
theorem Re.push (h : Re M m0 k row i fs inn ps) (hl : fs.length < line) : ∃ M', appR (M ++ [lstO []]) (.h (k + 2)) (.h M.length) = .ok (.d .non) M' ∧ Re M' m0 k row i (inn.length :: fs) (inn ++ [some (.lst [])]) ps := by
  have hb := h.big
  have h1 := h.app [lstO []]
  have g2 : grAt (M ++ [lstO []]) M.length = some ⟨.o (.lst []), []⟩ := by
    unfold grAt; simp
  have ne : ¬ M.length = k + 2 := by omega
  have h2 : (M ++ [lstO []]).set (k + 2) (some { root := Ob.lst (fs.reverse.map U.i), inn := inn ++ [some (Fo.lst [])] }) = (M.set (k + 2) (lsC fs (inn ++ [some (.lst [])]))) ++ [lstO []] := set_app (by omega)
  have h3 : ((M.set (k + 2) (lsC fs (inn ++ [some (.lst [])]))) ++ [lstO []]).set M.length none = (M.set (k + 2) (lsC fs (inn ++ [some (.lst [])]))) ++ [none] := by
    have := List.length_set (as := M) (i := k + 2) (a := lsC fs (inn ++ [some (.lst [])]))
    rw [List.set_append_right _ _ (by omega)]
    simp
  have h4 := (h.set_l fs (inn ++ [some (.lst [])])).app [none]
  refine ⟨_, ?_, h4.set_l (inn.length :: fs) (inn ++ [some (.lst [])])⟩
  simp only [appR, h1.rl]
  rw [guardR_of (by simpa using hl)]
  simp only [adopt, if_neg ne, g2, h1.gl, h2, h3, Res.bind_ok, setRoot, h4.gl]
  simp [lsC]
end
end UT
end Cn

namespace Cn
namespace UT
abbrev reC : E := .not (.meth 0 i_Source_is_over (.var 1) (.nil))
abbrev reA1 : Ss := .cons (.auga 0 1 .add (.var 1) (.int (1))) (.nil)
abbrev reA2 : Ss := .cons (.ex (.meth 0 i_Source_pass_remark (.var 1) (.nil))) (.nil)
abbrev reA3 : Ss := .cons (.ex (.call i_check_place (.cons (.cmp .le (.b1 .lenU (.var 2)) (.gi "MOST_DEEP" (16))) (.cons (.gi "TOO_DEEP" (6)) (.cons (.var 5) (.nil)))))) (.cons (.ex (.app (.var 2) (.lstM .nil))) (.cons (.ex (.app (.var 3) (.var 5))) (.cons (.auga 0 1 .add (.var 1) (.int (1))) (.nil))))
abbrev reA4 : Ss := .cons (.ex (.call i_check_place (.cons (.cmp .gt (.b1 .lenU (.var 2)) (.int (1))) (.cons (.gi "UNEXPECTED" (2)) (.cons (.var 5) (.nil)))))) (.cons (.asg 6 (.pop (.var 2))) (.cons (.ex (.app (.ix (.var 2) (.int (-1))) (.tup (.cons (.fz (.var 6)) (.cons (.pop (.var 3)) (.nil)))))) (.cons (.auga 0 1 .add (.var 1) (.int (1))) (.nil))))
abbrev reA5 : Ss := .cons (.ex (.app (.ix (.var 2) (.int (-1))) (.tup (.cons (.call i_read_value (.cons (.var 1) (.nil))) (.cons (.var 5) (.nil)))))) (.nil)
abbrev reI4 : S := .if_ (.cmp .eq (.var 4) (.gi "RIGHT" (41))) reA4 reA5
abbrev reI3 : S := .if_ (.cmp .eq (.var 4) (.gi "LEFT" (40))) reA3 (.cons reI4 .nil)
abbrev reI2 : S := .if_ (.cmp .eq (.var 4) (.gi "REMARK" (59))) reA2 (.cons reI3 .nil)
abbrev reI1 : S := .if_ (.cmp .in_ (.var 4) (.gt "BLANKS" (t_BLANKS))) reA1 (.cons reI2 .nil)
abbrev reB : Ss := .cons (.asg 4 (.ix (.var 0) (.at 0 1 (.var 1)))) (.cons (.asg 5 (.at 0 1 (.var 1))) (.cons reI1 .nil))
abbrev reS (row : List Nat) (k : Nat) (x4 x5 x6 : Option W) : Sl := [some (.d (.lst (nD row))), some (.h k), some (.h (k + 2)), some (.h (k + 3)), x4, x5, x6]
theorem s_asg' {C : Calls} {σ : Sl} {m m1 : Mu} {i : Nat} {e : E} {w : W} (h : evE C σ m e = .ok w m1) : evS C σ m (.asg i e) = .next (σ.set i (some w)) m1 := by
  simp only [evS, h, Res.toS_ok]
theorem evSs_one {C : Calls} {σ : Sl} {m : Mu} {s : S} : evSs C σ m (.cons s .nil) = evS C σ m s := by
  rw [evSs_cons]
  have : (fun σ m => evSs C σ m .nil) = fun σ m => SR.next σ m := by funext σ m; exact evSs_nil
  rw [this]
  cases evS C σ m s <;> rfl
section
variable {C : Calls} {M m0 : Mu} {k : Nat} {row p r : List Nat} {b i : Nat} {fs : List Nat} {inn : List (Option Fo)} {ps : List Nat} {x4 x5 x6 : Option W}
theorem re_head (he : row = p ++ b :: r) (hk : M[k]? = some (src row p.length)) : evSs C (reS row k x4 x5 x6) M reB = evS C (reS row k (some (.d (.int (b : Int)))) (some (.d (.int (p.length : Int)))) x6) M reI1 := by
  have e1 : evE C (reS row k x4 x5 x6) M (.ix (.var 0) (.at 0 1 (.var 1))) = .ok (.d (.int (b : Int))) M := by
    rw [evE, e_var (v := 0) rfl, Res.bind_ok, e_at (v := 1) rfl hk, Res.bind_ok, he]
    exact ix_row M p b r
  have e2 : evE C (reS row k (some (.d (.int (b : Int)))) x5 x6) M (.at 0 1 (.var 1)) = .ok (.d (.int (p.length : Int))) M := e_at (v := 1) rfl hk
  rw [evSs_cons, s_asg e1, SR.then_next, evSs_cons]
  show (evS C (reS row k (some (.d (.int (b : Int)))) x5 x6) M _).then _ = _
  rw [s_asg e2, SR.then_next, evSs_one]
  rfl
theorem e_blank {σ : Sl} {b : Nat} (hv : σ[4]? = some (some (.d (.int (b : Int))))) : evE C σ M (.cmp .in_ (.var 4) (.gt "BLANKS" (t_BLANKS))) = .ok (.d (.bl (Kh450.isSpace b))) M := by
  have e : evE C σ M (.gt "BLANKS" (t_BLANKS)) = .ok (.kt t_BLANKS) M := by simp only [evE]
  rw [e_cmp (e_var hv) e]
  have e2 : cmpR M .in_ (.d (.int (b : Int))) (.kt t_BLANKS) = guardR (decide (min (D.depths [.int 32, .int 9, .int 10, .int 13]) (D.depth (.int (b : Int))) ≤ 64)) (.ok ((32 == (b : Int)) || ((9 == (b : Int)) || ((10 == (b : Int)) || ((13 == (b : Int)) || false)))) M) := rfl
  rw [e2, guardR_of (by simp [D.depths, D.depth]), bl_ok]
  congr 3
  unfold Kh450.isSpace
  rw [Bool.eq_iff_iff]; simp; omega
theorem e_byteIs {σ : Sl} {b c : Nat} {ci : Int} {x : String} {v : Nat} (hc : ci = (c : Int)) (hv : σ[v]? = some (some (.d (.int (b : Int))))) : evE C σ M (.cmp .eq (.var v) (.gi x ci)) = .ok (.d (.bl (decide (b = c)))) M := by
  subst hc
  rw [e_cmp (e_var hv) (e_gi x c), cmp_eq, bl_ok]
  congr 3
  by_cases h : b = c
  · simp [h]
  · have : ¬ (b : Int) = (c : Int) := by omega
    simp [h, this]
theorem e_lenU {σ : Sl} {v : Nat} (hv : σ[v]? = some (some (.h (k + 2)))) (hR : Re M m0 k row i fs inn ps) (hl : fs.length ≤ line) : evE C σ M (.b1 .lenU (.var v)) = .ok (.d (.int (fs.length : Int))) M := by
  rw [ev_b1, e_var hv, Res.bind_ok]
  simp only [b1R, hR.rl]
  rw [guardR_of (by simpa using hl)]
  simp
end
/-- what the loop comes to -/
def ReGoal (R : SR) (m0 : Mu) (k : Nat) (row : List Nat) : Kh450.Read (List D) → Prop
  | .ok cur _ => ∃ x4 x5 x6 M' f inn, R = .next (reS row k x4 x5 x6) M' ∧ Re M' m0 k row row.length [f] inn [0] ∧ inn[f]? = some (some (.lst cur))
  | .error kd r => (∃ σ' M', R = .exc ⟨0, [(kd : Int), ((row.length - r.length : Nat) : Int)]⟩ σ' M') ∨
      (kd = 1 ∧ r = [] ∧ ∃ x4 x5 x6 M' fs inn ps, R = .next (reS row k x4 x5 x6) M' ∧ Re M' m0 k row row.length fs inn ps ∧ fs.length ≠ 1 ∧ fs.length ≤ line)
abbrev reW (n : Nat) (f : Nat) (σ : Sl) (M : Mu) : SR := whGo (fun σ m => tst (evE (run dfs (n + 6)) σ m reC)) (fun σ m => evSs (run dfs (n + 6)) σ m reB) f σ M
theorem re_loop (n : Nat) {m0 : Mu} {k : Nat} {row : List Nat} (hrow : row.length < 999999) : ∀ (f : Nat) (rest p : List Nat) (M : Mu) (fs : List Nat) (inn : List (Option Fo)) (st : List (Nat × List D)) (cur : List D) (x4 x5 x6 : Option W), row = p ++ rest → Re M m0 k row p.length fs inn (st.map (·.1) ++ [0]) → Okf inn fs (cur :: st.map (·.2)) → (∀ a ∈ cur :: st.map (·.2), a.length ≤ p.length) → st.length ≤ 16 → rest.length < f →
    ReGoal (reW n f (reS row k x4 x5 x6) M) m0 k row (mach row.length f rest st cur)
  | 0, rest, p, M, fs, inn, st, cur, x4, x5, x6, he, hR, hO, hA, hS, hf => by omega
  | f + 1, [], p, M, fs, inn, st, cur, x4, x5, x6, he, hR, hO, hA, hS, hf => by
    have he' : row = p := by rw [he, List.append_nil]
    have hk : M[k]? = some (src row row.length) := by have := hR.hs; rw [← he'] at this; exact this
    have hR' : Re M m0 k row row.length fs inn (st.map (·.1) ++ [0]) := by have := hR; rw [← he'] at this; exact this
    have c1 := e_more0 (σ := reS row k x4 x5 x6) (v := 1) (n + 5) rfl hk (by unfold line; omega)
    have hw : reW n (f + 1) (reS row k x4 x5 x6) M = .next (reS row k x4 x5 x6) M := wh_stop (by rw [c1]; exact tst_ok false M)
    have hlen := okf_len hO
    cases st with
    | nil =>
      cases fs with
      | nil => simp at hlen
      | cons f0 fs =>
        have : fs = [] := by simpa using hlen
        subst this
        exact ⟨x4, x5, x6, M, f0, inn, hw, hR', hO.1⟩
    | cons s st =>
      refine .inr ⟨rfl, rfl, x4, x5, x6, M, fs, inn, _, hw, hR', ?_, ?_⟩
      · simp at hlen; omega
      · unfold line; simp at hlen hS; omega
  | f + 1, b :: r, p, M, fs, inn, st, cur, x4, x5, x6, he, hR, hO, hA, hS, hf => by
    simp only [List.length_cons] at hf
    have hk := hR.hs
    have hkp : M[k]? = some (src (p ++ b :: r) p.length) := by rw [← he]; exact hk
    have hll : (p ++ b :: r).length ≤ line := by rw [← he]; unfold line; omega
    have hlp : (p ++ b :: r).length = p.length + (r.length + 1) := by simp
    have hrl : row.length = p.length + (r.length + 1) := by rw [he, hlp]
    have c1 := e_more1 (σ := reS row k x4 x5 x6) (v := 1) (n + 5) rfl hkp hll
    have hw : reW n (f + 1) (reS row k x4 x5 x6) M = (evS (run dfs (n + 6)) (reS row k (some (.d (.int (b : Int)))) (some (.d (.int (p.length : Int)))) x6) M reI1).then fun σ2 m2 => reW n f σ2 m2 := by
      rw [← re_head he hk]
      exact wh_go (by rw [c1]; exact tst_ok true M)
    rw [hw]
    clear hw c1
    have hlen := okf_len hO
    simp only [List.length_cons, List.length_map] at hlen
    have hfl : fs.length ≤ line := by unfold line; omega
    have e1 : row = (p ++ [b]) ++ r := by rw [he]; simp
    have l1 : (p ++ [b]).length = p.length + 1 := by simp
    have hA1 : ∀ a ∈ cur :: st.map (·.2), a.length ≤ (p ++ [b]).length := fun a ha => by rw [l1]; exact Nat.le_succ_of_le (hA a ha)
    generalize hσ : reS row k (some (.d (.int (b : Int)))) (some (.d (.int (p.length : Int)))) x6 = σ
    have v1 : σ[1]? = some (some (.h k)) := by rw [← hσ]; rfl
    have v2 : σ[2]? = some (some (.h (k + 2))) := by rw [← hσ]; rfl
    have v3 : σ[3]? = some (some (.h (k + 3))) := by rw [← hσ]; rfl
    have v4 : σ[4]? = some (some (.d (.int (b : Int)))) := by rw [← hσ]; rfl
    have v5 : σ[5]? = some (some (.d (.int (p.length : Int)))) := by rw [← hσ]; rfl
    unfold mach
    rw [s_if (e_blank v4)]
    by_cases hb : Kh450.isSpace b = true
    · rw [if_pos hb, if_pos hb, evSs_one, s_aug1 v1 hk, SR.then_next, ← hσ]
      have hR1 := hR.set_s (p ++ [b]).length
      rw [l1] at hR1
      exact re_loop n hrow f r (p ++ [b]) _ fs inn st cur _ _ _ e1 (by rw [l1]; exact hR1) hO hA1 hS (by omega)
    rw [if_neg hb, if_neg hb, evSs_one, s_if (e_byteIs (c := 59) (ci := 59) rfl v4)]
    by_cases h59 : b = 59
    · rw [if_pos h59, if_pos (by simpa using h59), evSs_one]
      have h := r_pass_remark (n + 4) hkp (by rw [← he]; exact hrow)
      have hd : dropC (b :: r) = dropC r := by
        subst h59; rfl
      rw [hd, ← he] at h
      rw [s_ex ((e_meth0 v1 hkp).trans h), SR.then_next, ← hσ]
      obtain ⟨q, hq⟩ := dropC_suf r
      have e2 : row = (p ++ b :: q) ++ dropC r := by rw [he]; conv => lhs; rw [hq]
                                                     simp
      have l2 : row.length - (dropC r).length = (p ++ b :: q).length := by rw [congrArg List.length e2]; simp; omega
      rw [l2]
      have hd := dropC_len r
      exact re_loop n hrow f (dropC r) (p ++ b :: q) _ fs inn st cur _ _ _ e2 (hR.set_s _) hO (fun a ha => Nat.le_trans (hA a ha) (by simp)) hS (by omega)
    rw [if_neg h59, if_neg (by simpa using h59), evSs_one, s_if (e_byteIs (c := 40) (ci := 40) rfl v4)]
    by_cases h40 : b = 40
    · rw [if_pos h40, if_pos (by simpa using h40), evSs_cons]
      have cc : evE (run dfs (n + 6)) σ M (.cmp .le (.b1 .lenU (.var 2)) (.gi "MOST_DEEP" 16)) = .ok (.d (.bl (decide ((fs.length : Int) ≤ 16)))) M := by
        rw [e_cmp (e_lenU v2 hR hfl) (e_gi "MOST_DEEP" 16), cmp_le, bl_ok]
      have c1 := e_call3 (f := i_check_place) cc (e_gi "TOO_DEEP" 6) (e_var v5)
      rw [r_check] at c1
      have hpl : row.length - (b :: r).length = p.length := by rw [hrl]; simp
      rw [hpl]
      by_cases hst : st.length < 16
      · rw [if_pos hst]
        rw [if_pos (by simp; omega)] at c1
        rw [s_ex c1, SR.then_next, evSs_cons]
        obtain ⟨M1, a1, R1⟩ := hR.push (by unfold line; omega)
        have a2 : evE (run dfs (n + 6)) σ M (.app (.var 2) (.lstM .nil)) = .ok (.d .non) M1 := by
          have i1 : isLst M (.h (k + 2)) = true := by simp only [isLst, hR.rl]
          have i2 : evE (run dfs (n + 6)) σ M (.lstM .nil) = .ok (.h M.length) (M ++ [lstO []]) := by simp [evE, evEs, allD, guardR, newR]
          rw [evE, e_var v2, Res.bind_ok, i1, guardR_true, i2, Res.bind_ok, a1]
        rw [s_ex a2, SR.then_next, evSs_cons]
        have a3 : evE (run dfs (n + 6)) σ M1 (.app (.var 3) (.var 5)) = .ok (.d .non) (M1.set (k + 3) (plC (p.length :: (st.map (·.1) ++ [0])))) := by
          have i1 : isLst M1 (.h (k + 3)) = true := by simp only [isLst, R1.rp]
          rw [evE, e_var v3, Res.bind_ok, i1, guardR_true, e_var v5, Res.bind_ok, R1.putp (by unfold line; simp; omega) p.length]
        have R2 := R1.set_p (p.length :: (st.map (·.1) ++ [0]))
        have R3 := R2.set_s (p.length + 1)
        rw [s_ex a3, SR.then_next, evSs_one, s_aug1 v1 R2.hs, SR.then_next, ← hσ]
        exact re_loop n hrow f r (p ++ [b]) _ _ _ ((p.length, cur) :: st) [] _ _ _ e1 (by rw [l1]; exact R3) (okf_push hO) (fun a ha => by
          rcases List.mem_cons.mp ha with rfl | ha
          · simp
          · exact hA1 a ha) (by simp; omega) (by omega)
      · rw [if_neg hst]
        rw [if_neg (by simp; omega)] at c1
        rw [s_exX c1, SR.then_exc, SR.then_exc]
        refine .inl ⟨σ, M, ?_⟩
        rw [hpl]; rfl
    rw [if_neg h40, if_neg (by simpa using h40), evSs_one, s_if (e_byteIs (c := 41) (ci := 41) rfl v4)]
    by_cases h41 : b = 41
    · rw [if_pos h41, if_pos (by simpa using h41), evSs_cons]
      have cc : evE (run dfs (n + 6)) σ M (.cmp .gt (.b1 .lenU (.var 2)) (.int 1)) = .ok (.d (.bl (decide ((1 : Int) < fs.length)))) M := by
        rw [e_cmp (e_lenU v2 hR hfl) (e_int 1), cmp_gt, bl_ok]
      have c1 := e_call3 (f := i_check_place) cc (e_gi "UNEXPECTED" 2) (e_var v5)
      rw [r_check] at c1
      have hpl : row.length - (b :: r).length = p.length := by rw [hrl]; simp
      cases st with
      | nil =>
        dsimp only
        rw [if_neg (by simp at hlen; simp; omega)] at c1
        rw [s_exX c1, SR.then_exc, SR.then_exc]
        refine .inl ⟨σ, M, ?_⟩
        rw [hpl]; rfl
      | cons s st =>
        dsimp only
        rw [if_pos (by simp at hlen; simp; omega)] at c1
        rw [s_ex c1, SR.then_next, evSs_cons]
        match fs, hlen, hR, hO with
        | f0 :: f1 :: fs, hlen, hR, hO =>
        have hR9 : Re M m0 k row p.length (f0 :: f1 :: fs) inn (s.1 :: (st.map (·.1) ++ [0])) := by
          rw [List.map_cons, List.cons_append] at hR
          exact hR
        obtain ⟨M1, a1', R1⟩ : ∃ M1, popR M (.h (k + 2)) = .ok (.hi (k + 2) f0) M1 ∧ Re M1 m0 k row p.length (f1 :: fs) inn (s.1 :: (st.map (·.1) ++ [0])) := ⟨_, hR9.popl, hR9.set_l (f1 :: fs) inn⟩
        have a1 : evE (run dfs (n + 6)) σ M (.pop (.var 2)) = .ok (.hi (k + 2) f0) M1 := by
          rw [evE, e_var v2, Res.bind_ok, a1']
        rw [s_asg' a1, SR.then_next, evSs_cons]
        have hσ2 : σ.set 6 (some (.hi (k + 2) f0)) = reS row k (some (.d (.int (b : Int)))) (some (.d (.int (p.length : Int)))) (some (.hi (k + 2) f0)) := by rw [← hσ]; rfl
        generalize hσ3 : σ.set 6 (some (.hi (k + 2) f0)) = σ2
        rw [hσ2] at hσ3
        have u1 : σ2[1]? = some (some (.h k)) := by rw [← hσ3]; rfl
        have u2 : σ2[2]? = some (some (.h (k + 2))) := by rw [← hσ3]; rfl
        have u3 : σ2[3]? = some (some (.h (k + 3))) := by rw [← hσ3]; rfl
        have u6 : σ2[6]? = some (some (.hi (k + 2) f0)) := by rw [← hσ3]; rfl
        obtain ⟨M2, a2, R2⟩ : ∃ M2, fzR M1 (.hi (k + 2) f0) = .ok (.lst cur) M2 ∧ Re M2 m0 k row p.length (f1 :: fs) (inn.set f0 none) (s.1 :: (st.map (·.1) ++ [0])) := ⟨_, R1.done hO.1, R1.set_l (f1 :: fs) (inn.set f0 none)⟩
        obtain ⟨M3, a3, R3⟩ : ∃ M3, popR M2 (.h (k + 3)) = .ok (.d (.int (s.1 : Int))) M3 ∧ Re M3 m0 k row p.length (f1 :: fs) (inn.set f0 none) (st.map (·.1) ++ [0]) := ⟨_, R2.popp, R2.set_p (st.map (·.1) ++ [0])⟩
        have O1 := okf_set none hO.2.1 hO.2.2
        have hs2 : s.2.length ≤ p.length := hA _ (by simp)
        obtain ⟨M4, a4, R4⟩ : ∃ M4, appR M3 (.hi (k + 2) f1) (.d (.tup [.lst cur, .int (s.1 : Int)])) = .ok (.d .non) M4 ∧ Re M4 m0 k row p.length (f1 :: fs) ((inn.set f0 none).set f1 (some (.lst (s.2 ++ [.tup [.lst cur, .int (s.1 : Int)]])))) (st.map (·.1) ++ [0]) :=
          ⟨_, R3.put O1.1 (by show s.2.length < line; unfold line; omega) (.tup [.lst cur, .int (s.1 : Int)]), R3.set_l (f1 :: fs) _⟩
        have a5 : evE (run dfs (n + 6)) σ2 M1 (.app (.ix (.var 2) (.int (-1))) (.tup (.cons (.fz (.var 6)) (.cons (.pop (.var 3)) .nil)))) = .ok (.d .non) M4 := by
          have i1 : isLst M1 (.hi (k + 2) f1) = true := by simp only [isLst, R1.inn_at hO.2.2.1]
          have i3 : evE (run dfs (n + 6)) σ2 M1 (.fz (.var 6)) = .ok (.d (.lst cur)) M2 := by
            rw [evE, e_var u6, Res.bind_ok, a2, Res.bind_ok]
          have i4 : evE (run dfs (n + 6)) σ2 M2 (.pop (.var 3)) = .ok (.d (.int (s.1 : Int))) M3 := by
            rw [evE, e_var u3, Res.bind_ok, a3]
          have i2 : evE (run dfs (n + 6)) σ2 M1 (.tup (.cons (.fz (.var 6)) (.cons (.pop (.var 3)) .nil))) = .ok (.d (.tup [.lst cur, .int (s.1 : Int)])) M3 := by
            rw [evE, evEs, i3, Res.bind_ok, evEs, i4, Res.bind_ok, evEs]
            rfl
          have i0 : evE (run dfs (n + 6)) σ2 M1 (.ix (.var 2) (.int (-1))) = .ok (.hi (k + 2) f1) M1 := by
            rw [evE, e_var u2, Res.bind_ok, e_int, Res.bind_ok, R1.top]
          rw [evE, i0, Res.bind_ok, i1, guardR_true, i2, Res.bind_ok]
          exact a4
        rw [s_ex a5, SR.then_next, evSs_one, s_aug1 u1 R4.hs, SR.then_next, ← hσ3]
        have R5 := R4.set_s (p.length + 1)
        exact re_loop n hrow f r (p ++ [b]) _ (f1 :: fs) _ st _ _ _ _ e1 (by rw [l1]; exact R5) (okf_top O1 _) (fun a ha => by
          rcases List.mem_cons.mp ha with rfl | ha
          · simp; omega
          · exact hA1 a (by simp only [List.map_cons, List.mem_cons]; exact .inr (.inr ha))) (by simp at hS; omega) (by omega)
    rw [if_neg h41, if_neg (by simpa using h41), evSs_one]
    have h := r_read_value n h40 hkp (by rw [← he]; exact hrow)
    rw [← he] at h
    match fs, hlen, hR, hO with
    | f0 :: fs, hlen, hR, hO =>
    have i0 : evE (run dfs (n + 6)) σ M (.ix (.var 2) (.int (-1))) = .ok (.hi (k + 2) f0) M := by
      rw [evE, e_var v2, Res.bind_ok, e_int, Res.bind_ok, hR.top]
    have i1 : isLst M (.hi (k + 2) f0) = true := by simp only [isLst, hR.inn_at hO.1]
    have hc := e_call1 (C := run dfs (n + 6)) (f := i_read_value) (σ := σ) (m := M) (e_var v1)
    cases hz : Kh450.readNode row.length 0 (b :: r) with
    | error kd rest =>
      rw [hz] at h
      dsimp only at h ⊢
      obtain ⟨m', h⟩ := h
      rw [h] at hc
      have a5 : evE (run dfs (n + 6)) σ M (.app (.ix (.var 2) (.int (-1))) (.tup (.cons (.call i_read_value (.cons (.var 1) .nil)) (.cons (.var 5) .nil)))) = .exc ⟨0, [(kd : Int), ((row.length - rest.length : Nat) : Int)]⟩ m' := by
        rw [evE, i0, Res.bind_ok, i1, guardR_true, evE, evEs, hc]
        rfl
      rw [s_exX a5, SR.then_exc]
      exact .inl ⟨_, _, rfl⟩
    | ok nd rest =>
      rw [hz] at h
      dsimp only at h ⊢
      obtain ⟨d, hd, h⟩ := h
      rw [h] at hc
      obtain ⟨q, hq, hq0⟩ := leaf_suf hz
      have e2 : row = (p ++ q) ++ rest := by rw [he, hq, List.append_assoc]
      have l2 : row.length - rest.length = (p ++ q).length := by rw [congrArg List.length e2]; simp; omega
      have l3 : rest.length < (b :: r).length := leaf_len hz
      rw [l2] at hc
      have R1 := hR.set_s (p ++ q).length
      have hcur : cur.length ≤ p.length := hA _ (by simp)
      obtain ⟨M2, a4, R2⟩ : ∃ M2, appR (M.set k (src row (p ++ q).length)) (.hi (k + 2) f0) (.d (nodeD nd)) = .ok (.d .non) M2 ∧ Re M2 m0 k row (p ++ q).length (f0 :: fs) (inn.set f0 (some (.lst (cur ++ [nodeD nd])))) (st.map (·.1) ++ [0]) :=
        ⟨_, R1.put hO.1 (by unfold line; omega) (nodeD nd), R1.set_l (f0 :: fs) _⟩
      have a5 : evE (run dfs (n + 6)) σ M (.app (.ix (.var 2) (.int (-1))) (.tup (.cons (.call i_read_value (.cons (.var 1) .nil)) (.cons (.var 5) .nil)))) = .ok (.d .non) M2 := by
        have i2 : evE (run dfs (n + 6)) σ M (.tup (.cons (.call i_read_value (.cons (.var 1) .nil)) (.cons (.var 5) .nil))) = .ok (.d (nodeD nd)) (M.set k (src row (p ++ q).length)) := by
          rw [evE, evEs, hc, Res.bind_ok, evEs, e_var v5, Res.bind_ok, evEs, hd]
          rfl
        rw [evE, i0, Res.bind_ok, i1, guardR_true, i2, Res.bind_ok]
        exact a4
      rw [s_ex a5, SR.then_next, ← hσ]
      exact re_loop n hrow f rest (p ++ q) _ (f0 :: fs) _ st _ _ _ _ e2 R2 (okf_top hO _) (fun a ha => by
        rcases List.mem_cons.mp ha with rfl | ha
        · simp; omega
        · exact Nat.le_trans (hA a (List.mem_cons_of_mem _ ha)) (by simp)) hS (by simp at l3; omega)
end UT
end Cn

namespace Cn
namespace UT
theorem at_len {α : Type} (m : List α) (x : α) (y : List α) : (m ++ x :: y)[m.length]? = some x := by simp
theorem gr_len (m : Mu) (g : Gr) (y : Mu) : grAt (m ++ some g :: y) m.length = some g := by
  unfold grAt; rw [at_len]
theorem rt_len (m : Mu) (g : Gr) (y : Mu) : rootAt (m ++ some g :: y) m.length = some g.root := by
  unfold rootAt; rw [gr_len]
theorem set_len {α : Type} (m : List α) (x z : α) (y : List α) : (m ++ x :: y).set m.length z = m ++ z :: y := by
  rw [List.set_append_right _ _ (Nat.le_refl _)]; simp
theorem sta_new (m : Mu) (c f : Nat) (us : List U) (x : D) (h : f = us.length) : sta (m ++ [some ⟨.ins c us, []⟩]) c f (.h m.length) (.d x) = .ok () (m ++ [some ⟨.ins c (us ++ [.d x]), []⟩]) := by
  subst h
  simp only [sta, rt_len, adopt, Res.bind_ok, setRoot, gr_len, set_len]
  simp
theorem s_seta {C : Calls} {σ : Sl} {m m1 : Mu} {c f : Nat} {o e : E} {w x : W} {m2 : Mu} (he : evE C σ m e = .ok w m) (ho : evE C σ m o = .ok x m) (h : sta m c f x w = .ok () m2) : evS C σ m (.seta c f o e) = .next σ m2 := by
  simp only [evS, he, Res.toS_ok, ho, h]
theorem r_Source_init (n : Nat) (m : Mu) (x : D) : run dfs (n + 1) i_Source___init__ [.h m.length, .d x] (m ++ [some ⟨.ins 0 [], []⟩]) = .ok (.d .non) (m ++ [some ⟨.ins 0 [.d x, .d (.int 0)], []⟩]) := by
  rw [run_at (d := f_Source___init__) rfl]
  show endS ((m ++ [some ⟨.ins 0 [], []⟩] : Mu).length) (evSs (run dfs n) [some (.h m.length), some (.d x)] (m ++ [some ⟨.ins 0 [], []⟩]) b_Source___init__) = _
  unfold b_Source___init__
  rw [evSs_cons, s_seta (m1 := m) (e_var rfl) (e_var rfl) (sta_new m 0 0 [] x rfl), SR.then_next, evSs_one, List.nil_append, s_seta (m1 := m) (e_int 0) (e_var rfl) (sta_new m 0 1 [.d x] (.int 0) rfl)]
  show Res.ok _ (List.take _ _) = _
  rw [List.take_of_length_le (by simp)]
  rfl
theorem e_new1 {C : Calls} {σ : Sl} {m m1 : Mu} {c f : Nat} {a : E} {w : W} (ha : evE C σ m a = .ok w m) (h : C f [.h m.length, w] (m ++ [some ⟨.ins c [], []⟩]) = .ok (.d .non) m1) : evE C σ m (.new c f (.cons a .nil)) = .ok (.h m.length) m1 := by
  rw [evE, evEs, ha, Res.bind_ok, evEs, Res.bind_ok, Res.bind_ok, h, Res.bind_ok]
  rfl
theorem r_read_expressions (n : Nat) (m : Mu) (row : List Nat) (hrow : row.length < 999999) :
    match Kh450.readAll row with
    | .ok nds _ => run dfs (n + 7) i_read_expressions [.d (.lst (nD row))] m = .ok (.d (.lst (nds.map nodeD))) m
    | .error kd r => ∃ m', run dfs (n + 7) i_read_expressions [.d (.lst (nD row))] m = .exc ⟨0, [(kd : Int), ((row.length - r.length : Nat) : Int)]⟩ m' := by
  rw [run_at (d := f_read_expressions) rfl]
  have st : runD (run dfs (n + 6)) f_read_expressions [.d (.lst (nD row))] m = endS m.length (evSs (run dfs (n + 6)) [some (.d (.lst (nD row))), none, none, none, none, none, none] m b_read_expressions) := rfl
  rw [st]
  unfold b_read_expressions
  have a1 : evE (run dfs (n + 6)) [some (.d (.lst (nD row))), none, none, none, none, none, none] m (.new 0 i_Source___init__ (.cons (.var 0) .nil)) = .ok (.h m.length) (m ++ [src row 0]) := e_new1 (e_var rfl) (r_Source_init (n + 5) m _)
  rw [evSs_cons, s_asg' a1, SR.then_next, evSs_cons]
  show match Kh450.readAll row with
    | .ok nds _ => endS m.length ((evS (run dfs (n + 6)) [some (.d (.lst (nD row))), some (.h m.length), none, none, none, none, none] (m ++ [src row 0]) _).then _) = .ok (.d (.lst (nds.map nodeD))) m
    | .error kd r => ∃ m', endS m.length ((evS (run dfs (n + 6)) [some (.d (.lst (nD row))), some (.h m.length), none, none, none, none, none] (m ++ [src row 0]) _).then _) = .exc ⟨0, [(kd : Int), ((row.length - r.length : Nat) : Int)]⟩ m'
  have a2 : evE (run dfs (n + 6)) [some (.d (.lst (nD row))), some (.h m.length), none, none, none, none, none] (m ++ [src row 0]) (.lstU (.cons (.lstM .nil) .nil)) = .ok (.h (m.length + 2)) (m ++ [src row 0, none, lsC [0] [some (.lst [])]]) := by
    have i2 : evE (run dfs (n + 6)) [some (.d (.lst (nD row))), some (.h m.length), none, none, none, none, none] (m ++ [src row 0]) (.lstM .nil) = .ok (.h (m ++ [src row 0]).length) ((m ++ [src row 0]) ++ [lstO []]) := by simp [evE, evEs, allD, guardR, newR]
    rw [evE, evEs, i2, Res.bind_ok, evEs, Res.bind_ok, Res.bind_ok]
    have g := gr_len (m ++ [src row 0]) ⟨.o (.lst []), []⟩ []
    simp only [newU, g, set_len]
    simp
  rw [s_asg' a2, SR.then_next, evSs_cons]
  show match Kh450.readAll row with
    | .ok nds _ => endS m.length ((evS (run dfs (n + 6)) [some (.d (.lst (nD row))), some (.h m.length), some (.h (m.length + 2)), none, none, none, none] (m ++ [src row 0, none, lsC [0] [some (.lst [])]]) _).then _) = .ok (.d (.lst (nds.map nodeD))) m
    | .error kd r => ∃ m', endS m.length ((evS (run dfs (n + 6)) [some (.d (.lst (nD row))), some (.h m.length), some (.h (m.length + 2)), none, none, none, none] (m ++ [src row 0, none, lsC [0] [some (.lst [])]]) _).then _) = .exc ⟨0, [(kd : Int), ((row.length - r.length : Nat) : Int)]⟩ m'
  have a3 : evE (run dfs (n + 6)) [some (.d (.lst (nD row))), some (.h m.length), some (.h (m.length + 2)), none, none, none, none] (m ++ [src row 0, none, lsC [0] [some (.lst [])]]) (.lstM (.cons (.int 0) .nil)) = .ok (.h (m.length + 3)) (m ++ [src row 0, none, lsC [0] [some (.lst [])], plC [0]]) := by
    simp [evE, evEs, allD, guardR, newR, line]
  rw [s_asg' a3, SR.then_next, evSs_cons]
  show match Kh450.readAll row with
    | .ok nds _ => endS m.length ((evS (run dfs (n + 6)) (reS row m.length none none none) (m ++ [src row 0, none, lsC [0] [some (.lst [])], plC [0]]) (.wh reC reB)).then _) = .ok (.d (.lst (nds.map nodeD))) m
    | .error kd r => ∃ m', endS m.length ((evS (run dfs (n + 6)) (reS row m.length none none none) (m ++ [src row 0, none, lsC [0] [some (.lst [])], plC [0]]) (.wh reC reB)).then _) = .exc ⟨0, [(kd : Int), ((row.length - r.length : Nat) : Int)]⟩ m'
  have R0 : Re (m ++ [src row 0, none, lsC [0] [some (.lst [])], plC [0]]) m m.length row 0 [0] [some (.lst [])] [0] :=
    ⟨rfl, by simp, by simp, by simp, by simp⟩
  have lp := re_loop n (m0 := m) (k := m.length) hrow turns row [] _ [0] [some (.lst [])] [] [] none none none rfl R0 ⟨rfl, by simp, trivial⟩ (by simp) (by simp) (by unfold turns; omega)
  rw [mach_fuel row.length turns (row.length + 1) row [] [] (by unfold turns; omega) (by omega), mach_all] at lp
  have hw : evS (run dfs (n + 6)) (reS row m.length none none none) (m ++ [src row 0, none, lsC [0] [some (.lst [])], plC [0]]) (.wh reC reB) = reW n turns (reS row m.length none none none) (m ++ [src row 0, none, lsC [0] [some (.lst [])], plC [0]]) := by rw [evS]
  rw [hw]
  -- behind the loop
  have chk : ∀ (x4 x5 x6 : Option W) (M' : Mu) (fs : List Nat) (inn : List (Option Fo)) (ps : List Nat), Re M' m m.length row row.length fs inn ps → fs.length ≤ line → evE (run dfs (n + 6)) (reS row m.length x4 x5 x6) M' (.call i_check_place (.cons (.cmp .eq (.b1 .lenU (.var 2)) (.int 1)) (.cons (.gi "TOO_EARLY" 1) (.cons (.b1 .len (.var 0)) .nil)))) = if fs.length = 1 then .ok (.d .non) M' else .exc ⟨0, [1, (row.length : Int)]⟩ M' := by
    intro x4 x5 x6 M' fs inn ps hR hl
    have cc : evE (run dfs (n + 6)) (reS row m.length x4 x5 x6) M' (.cmp .eq (.b1 .lenU (.var 2)) (.int 1)) = .ok (.d (.bl (decide ((fs.length : Int) = 1)))) M' := by
      rw [e_cmp (e_lenU (v := 2) rfl hR hl) (e_int 1), cmp_eq, bl_ok]
    have c2 := e_len (C := run dfs (n + 6)) (σ := reS row m.length x4 x5 x6) (m := M') (l := row) (e := .var 0) (e_var rfl) (by unfold line; omega)
    rw [e_call3 (f := i_check_place) cc (e_gi "TOO_EARLY" 1) c2, r_check]
    by_cases h : fs.length = 1
    · rw [if_pos h, if_pos (by simp; omega)]
    · rw [if_neg h, if_neg (by simp; omega)]
  cases hz : Kh450.readAll row with
  | ok nds rest =>
    rw [hz] at lp
    obtain ⟨x4, x5, x6, M', f, inn, hW, hR, hi⟩ := lp
    dsimp only
    have c := chk x4 x5 x6 M' [f] inn [0] hR (by unfold line; simp)
    rw [if_pos (show [f].length = 1 from rfl)] at c
    rw [hW, SR.then_next, evSs_cons, s_ex c, SR.then_next, evSs_one]
    have i0 : evE (run dfs (n + 6)) (reS row m.length x4 x5 x6) M' (.fz (.ix (.var 2) (.int 0))) = .ok (.d (.lst (nds.map nodeD))) (M'.set (m.length + 2) (lsC [f] (inn.set f none))) := by
      have i1 : ixR M' (.h (m.length + 2)) (.d (.int 0)) = .ok (.hi (m.length + 2) f) M' := by
        simp [ixR, hR.rl, atZ, ixZ, toU]
      rw [evE, evE, e_var (v := 2) rfl, Res.bind_ok, e_int, Res.bind_ok, i1, Res.bind_ok, hR.done hi, Res.bind_ok]
    rw [s_ret i0]
    show Res.ok _ (List.take _ _) = _
    rw [take_ge (by omega), hR.pre]
  | error kd r =>
    rw [hz] at lp
    dsimp only
    rcases lp with ⟨σ', M', h⟩ | ⟨rfl, rfl, x4, x5, x6, M', fs, inn, ps, hW, hR, hf, hl⟩
    · rw [h, SR.then_exc]
      exact ⟨_, rfl⟩
    · have c := chk x4 x5 x6 M' fs inn ps hR hl
      rw [if_neg hf] at c
      rw [hW, SR.then_next, evSs_cons, s_exX c, SR.then_exc]
      exact ⟨_, rfl⟩
end UT
end Cn

namespace Cn
namespace UT
mutual
/-- how many bytes it takes, at least -/
def sizeN : Kh450.Node → Nat
  | .symbol _ n => max 1 n.length
  | .integer _ _ => 1
  | .string _ t => t.length + 1
  | .list _ is => sizesN is + 1
def sizesN : List Kh450.Node → Nat
  | [] => 0
  | x :: r => sizeN x + sizesN r
end
theorem size_pos : ∀ x : Kh450.Node, 1 ≤ sizeN x
  | .symbol _ n => by unfold sizeN; omega
  | .integer _ _ => by unfold sizeN; omega
  | .string _ t => by unfold sizeN; omega
  | .list _ is => by unfold sizeN; omega
theorem sizes_len : ∀ l : List Kh450.Node, l.length ≤ sizesN l
  | [] => Nat.zero_le _
  | x :: r => by
    have := size_pos x
    have := sizes_len r
    rw [sizesN, List.length_cons]; omega
theorem sizes_mem : ∀ {l : List Kh450.Node} {x : Kh450.Node}, x ∈ l → sizeN x ≤ sizesN l
  | y :: r, x, h => by
    rw [sizesN]
    rcases List.mem_cons.mp h with rfl | h
    · omega
    · have := sizes_mem h; omega
theorem leaf_size {total b : Nat} {r : List Nat} {nd : Kh450.Node} {rest : List Nat} (h : Kh450.readNode total 0 (b :: r) = .ok nd rest) : sizeN nd + rest.length ≤ (b :: r).length := by
  have hll := leaf_len h
  unfold Kh450.readNode at h
  dsimp only at h
  split at h
  · cases h
  · split at h
    · cases hz : Kh450.readString r.length r with
      | ok u w =>
        rw [hz] at h
        simp only [Kh450.Read.bind, Kh450.Read.ok.injEq] at h
        obtain ⟨rfl, rfl⟩ := h
        obtain ⟨q, e, hq⟩ := str_suf _ r u w hz
        have e2 := congrArg List.length e
        rw [List.length_append] at e2
        rw [sizeN, List.length_cons]; omega
      | error k w =>
        rw [hz] at h
        simp [Kh450.Read.bind] at h
    · split at h
      · rename_i hb
        split at h
        · cases h
        · simp only [Kh450.Read.ok.injEq] at h
          obtain ⟨rfl, rfl⟩ := h
          rw [sizeN]
          omega
      · split at h
        · rename_i hb
          simp only [Kh450.Read.ok.injEq] at h
          obtain ⟨rfl, rfl⟩ := h
          have e := congrArg List.length (tw_app Kh450.isSymbolPart (b :: r))
          rw [List.length_append] at e
          rw [sizeN]
          omega
        · cases h
def SizeOk (total d : Nat) : Prop := ∀ (b : Nat) (r : List Nat) (nd : Kh450.Node) (rest : List Nat), Kh450.readNode total d (b :: r) = .ok nd rest → sizeN nd + rest.length ≤ (b :: r).length
theorem list_size (total d : Nat) (hd : SizeOk total d) : ∀ (g : Nat) (bs : List Nat) (nds : List Kh450.Node) (rest : List Nat), Kh450.readList (Kh450.readNode total d) g bs = .ok nds rest → sizesN nds + rest.length ≤ bs.length
  | 0, bs, nds, rest, h => by cases h
  | g + 1, bs, nds, rest, h => by
    have hl := skip_len bs false
    unfold Kh450.readList at h
    cases hs : Kh450.skipSpace false bs with
    | nil => rw [hs] at h; cases h
    | cons b r =>
      rw [hs] at h hl
      by_cases h41 : b = 41
      · subst h41
        cases h
        rw [sizesN]; simp at hl; omega
      · have e : (Kh450.readNode total d (b :: r)).bind (fun node rest => (Kh450.readList (Kh450.readNode total d) g rest).bind fun nodes rest => .ok (node :: nodes) rest) = .ok nds rest := by
          split at h
          · rename_i hh; cases hh
          · rename_i hh; cases hh; exact absurd rfl h41
          · exact h
        cases hz : Kh450.readNode total d (b :: r) with
        | error k w => rw [hz] at e; cases e
        | ok nd w =>
          rw [hz] at e
          have h1 := hd b r nd w hz
          cases hy : Kh450.readList (Kh450.readNode total d) g w with
          | error k w2 => simp only [Kh450.Read.bind, hy] at e; cases e
          | ok ns w2 =>
            simp only [Kh450.Read.bind, hy, Kh450.Read.ok.injEq] at e
            obtain ⟨rfl, rfl⟩ := e
            have h2 := list_size total d hd g w ns w2 hy
            rw [sizesN]; omega
theorem node_size (total : Nat) : ∀ d, SizeOk total d
  | 0 => fun b r nd rest h => leaf_size h
  | d + 1 => fun b r nd rest h => by
    by_cases h4 : b = 40
    · subst h4
      have e : Kh450.readNode total (d + 1) (40 :: r) = (Kh450.readList (Kh450.readNode total d) (40 :: r).length r).bind fun items rest => .ok (.list (total - (40 :: r).length) items) rest := rfl
      rw [e] at h
      cases hz : Kh450.readList (Kh450.readNode total d) (40 :: r).length r with
      | error k w => rw [hz] at h; cases h
      | ok ns w =>
        simp only [hz, Kh450.Read.bind, Kh450.Read.ok.injEq] at h
        obtain ⟨rfl, rfl⟩ := h
        have h2 := list_size total d (node_size total d) _ r ns w hz
        rw [sizeN, List.length_cons]; omega
    · rw [leaf_d h4] at h
      exact leaf_size h
theorem all_size (total : Nat) : ∀ (g : Nat) (bs : List Nat) (nds : List Kh450.Node) (rest : List Nat), Kh450.readAllLoop total g bs = .ok nds rest → sizesN nds ≤ bs.length
  | 0, bs, nds, rest, h => by cases h
  | g + 1, bs, nds, rest, h => by
    have hl := skip_len bs false
    cases hs : Kh450.skipSpace false bs with
    | nil =>
      have e : Kh450.readAllLoop total (g + 1) bs = .ok [] [] := by
        unfold Kh450.readAllLoop; rw [hs]
      rw [e] at h
      cases h
      rw [sizesN]; omega
    | cons b r =>
      rw [hs] at hl
      have e : Kh450.readAllLoop total (g + 1) bs = (Kh450.readNode total 16 (b :: r)).bind fun node rest => (Kh450.readAllLoop total g rest).bind fun nodes rest => .ok (node :: nodes) rest := by
        conv => lhs; unfold Kh450.readAllLoop
        rw [hs]
        rfl
      rw [e] at h
      cases hz : Kh450.readNode total 16 (b :: r) with
      | error k w => rw [hz] at h; cases h
      | ok nd w =>
        rw [hz] at h
        have h1 := node_size total 16 b r nd w hz
        cases hy : Kh450.readAllLoop total g w with
        | error k w2 => simp only [Kh450.Read.bind, hy] at h; cases h
        | ok ns w2 =>
          simp only [Kh450.Read.bind, hy, Kh450.Read.ok.injEq] at h
          obtain ⟨rfl, rfl⟩ := h
          have h2 := all_size total g w ns w2 hy
          rw [sizesN]; omega
theorem read_size {row : List Nat} {nds : List Kh450.Node} {rest : List Nat} (h : Kh450.readAll row = .ok nds rest) : sizesN nds ≤ row.length := all_size _ _ _ _ _ h
theorem nD_plain : ∀ l : List Nat, D.plains (nD l) = true
  | [] => rfl
  | x :: r => nD_plain r
mutual
theorem node_plain : ∀ x : Kh450.Node, D.plain (nodeD x) = true
  | .symbol _ n => by rw [nodeD]; rfl
  | .integer _ _ => by rw [nodeD]; rfl
  | .string _ t => by
    rw [nodeD]
    show (D.plains (nD t) && true) = true
    rw [nD_plain]; rfl
  | .list _ is => by
    rw [nodeD]
    show (D.plains (nodesD is) && true) = true
    rw [nodes_plain is]; rfl
theorem nodes_plain : ∀ l : List Kh450.Node, D.plains (nodesD l) = true
  | [] => rfl
  | x :: r => by
    rw [nodesD]
    show (D.plain (nodeD x) && D.plains (nodesD r)) = true
    rw [node_plain x, nodes_plain r]; rfl
end
/-! ### settings -/
def partsD : Kh454.Part → List D
  | .text t => t.map fun (c : Nat) => .tup [.int (-1), .int (c : Int)]
  | .counter s => [.tup [.int (shN s : Nat), .int 0]]
  | .level s n => [.tup [.int (shN s : Nat), .int (n : Nat)]]
def patD (p : Kh454.Pattern) : D := .lst (p.flatMap partsD)
theorem parts_part {p : Kh454.Part} (h : okPart p) : partsD p = [partD p] := by
  cases p with
  | text t => obtain ⟨c, rfl⟩ := h; rfl
  | level s n => rfl
  | counter s => rfl
theorem parts_map : ∀ {ps : Kh454.Pattern}, (∀ p ∈ ps, okPart p) → ps.flatMap partsD = ps.map partD
  | [], _ => rfl
  | p :: ps, h => by
    rw [List.flatMap_cons, parts_part (h p List.mem_cons_self), parts_map fun q hq => h q (List.mem_cons_of_mem _ hq)]
    rfl
abbrev k6 : List Ky := [.i 1, .i 2, .i 3, .i 4, .i 5, .i 6]
abbrev w4 : List Ky := [.s [102, 105, 103, 117, 114, 101], .s [116, 97, 98, 108, 101], .s [102, 111, 114, 109, 117, 108, 97], .s [110, 111, 116, 101]]
def hdF (s : Kh454.Settings) : Fo := .dK k6 (s.headings.map fun o => patD (o.getD []))
def fnF (s : Kh454.Settings) : Fo := .dK k6 (s.starts.map fun (n : Nat) => .int ((n + 1 : Nat) : Int))
def ptF (s : Kh454.Settings) : Fo := .dK w4 [patD s.figure.pattern, patD s.table.pattern, patD s.formula.pattern, patD s.note.pattern]
def rsF (s : Kh454.Settings) : Fo := .dK w4 [.int (s.figure.restart : Nat), .int (s.table.restart : Nat), .int (s.formula.restart : Nat), .int (s.note.restart : Nat)]
/-- texts once each, in the order in which they first come -/
def once (l : List (List Nat)) : List (List Nat) := l.foldl (fun ks t => if t ∈ ks then ks else ks ++ [t]) []
def intsN (t : List Nat) : List Int := t.map fun (c : Nat) => (c : Int)
def skF (s : Kh454.Settings) : Fo := .dT ((once s.skipped).map intsN) ((once s.skipped).map fun _ => .bl true)
def stO (s : Kh454.Settings) : Option Gr := some ⟨.ins 1 [.i 0, .i 1, .i 2, .i 3, .i 4], [some (hdF s), some (fnF s), some (ptF s), some (rsF s), some (skF s)]⟩
abbrev hd0 : List D := [.lst [.tup [.int 0, .int 1]], .lst [.tup [.int 0, .int 1], .tup [.int (-1), .int 46], .tup [.int 0, .int 2]], .lst [.tup [.int 0, .int 1], .tup [.int (-1), .int 46], .tup [.int 0, .int 2], .tup [.int (-1), .int 46], .tup [.int 0, .int 3]], .lst [.tup [.int 0, .int 1], .tup [.int (-1), .int 46], .tup [.int 0, .int 2], .tup [.int (-1), .int 46], .tup [.int 0, .int 3], .tup [.int (-1), .int 46], .tup [.int 0, .int 4]], .lst [.tup [.int 0, .int 1], .tup [.int (-1), .int 46], .tup [.int 0, .int 2], .tup [.int (-1), .int 46], .tup [.int 0, .int 3], .tup [.int (-1), .int 46], .tup [.int 0, .int 4], .tup [.int (-1), .int 46], .tup [.int 0, .int 5]], .lst [.tup [.int 0, .int 1], .tup [.int (-1), .int 46], .tup [.int 0, .int 2], .tup [.int (-1), .int 46], .tup [.int 0, .int 3], .tup [.int (-1), .int 46], .tup [.int 0, .int 4], .tup [.int (-1), .int 46], .tup [.int 0, .int 5], .tup [.int (-1), .int 46], .tup [.int 0, .int 6]]]
abbrev hdP0 : List D := [.tup [.int 1, .lst [.tup [.int 0, .int 1]]], .tup [.int 2, .lst [.tup [.int 0, .int 1], .tup [.int (-1), .int 46], .tup [.int 0, .int 2]]], .tup [.int 3, .lst [.tup [.int 0, .int 1], .tup [.int (-1), .int 46], .tup [.int 0, .int 2], .tup [.int (-1), .int 46], .tup [.int 0, .int 3]]], .tup [.int 4, .lst [.tup [.int 0, .int 1], .tup [.int (-1), .int 46], .tup [.int 0, .int 2], .tup [.int (-1), .int 46], .tup [.int 0, .int 3], .tup [.int (-1), .int 46], .tup [.int 0, .int 4]]], .tup [.int 5, .lst [.tup [.int 0, .int 1], .tup [.int (-1), .int 46], .tup [.int 0, .int 2], .tup [.int (-1), .int 46], .tup [.int 0, .int 3], .tup [.int (-1), .int 46], .tup [.int 0, .int 4], .tup [.int (-1), .int 46], .tup [.int 0, .int 5]]], .tup [.int 6, .lst [.tup [.int 0, .int 1], .tup [.int (-1), .int 46], .tup [.int 0, .int 2], .tup [.int (-1), .int 46], .tup [.int 0, .int 3], .tup [.int (-1), .int 46], .tup [.int 0, .int 4], .tup [.int (-1), .int 46], .tup [.int 0, .int 5], .tup [.int (-1), .int 46], .tup [.int 0, .int 6]]]]
abbrev ct0 : List D := [.lst [.tup [.int (-1), .int 70], .tup [.int (-1), .int 105], .tup [.int (-1), .int 103], .tup [.int (-1), .int 117], .tup [.int (-1), .int 114], .tup [.int (-1), .int 101], .tup [.int (-1), .int 32], .tup [.int 0, .int 0]], .lst [.tup [.int (-1), .int 84], .tup [.int (-1), .int 97], .tup [.int (-1), .int 98], .tup [.int (-1), .int 108], .tup [.int (-1), .int 101], .tup [.int (-1), .int 32], .tup [.int 0, .int 0]], .lst [.tup [.int (-1), .int 40], .tup [.int 0, .int 0], .tup [.int (-1), .int 41]], .lst [.tup [.int 0, .int 0]]]
abbrev ctP0 : List D := [.tup [.str [102, 105, 103, 117, 114, 101], .lst [.tup [.int (-1), .int 70], .tup [.int (-1), .int 105], .tup [.int (-1), .int 103], .tup [.int (-1), .int 117], .tup [.int (-1), .int 114], .tup [.int (-1), .int 101], .tup [.int (-1), .int 32], .tup [.int 0, .int 0]]], .tup [.str [116, 97, 98, 108, 101], .lst [.tup [.int (-1), .int 84], .tup [.int (-1), .int 97], .tup [.int (-1), .int 98], .tup [.int (-1), .int 108], .tup [.int (-1), .int 101], .tup [.int (-1), .int 32], .tup [.int 0, .int 0]]], .tup [.str [102, 111, 114, 109, 117, 108, 97], .lst [.tup [.int (-1), .int 40], .tup [.int 0, .int 0], .tup [.int (-1), .int 41]]], .tup [.str [110, 111, 116, 101], .lst [.tup [.int 0, .int 0]]]]
abbrev rsP0 : List D := [.tup [.str [102, 105, 103, 117, 114, 101], .int 0], .tup [.str [116, 97, 98, 108, 101], .int 0], .tup [.str [102, 111, 114, 109, 117, 108, 97], .int 0], .tup [.str [110, 111, 116, 101], .int 0]]
abbrev fnP0 : List D := [.tup [.int 1, .int 1], .tup [.int 2, .int 1], .tup [.int 3, .int 1], .tup [.int 4, .int 1], .tup [.int 5, .int 1], .tup [.int 6, .int 1]]
theorem st_default : stO Kh454.defaultSettings = some ⟨.ins 1 [.i 0, .i 1, .i 2, .i 3, .i 4], [some (.dK k6 hd0), some (.dK k6 [.int 1, .int 1, .int 1, .int 1, .int 1, .int 1]), some (.dK w4 ct0), some (.dK w4 [.int 0, .int 0, .int 0, .int 0]), some (.dT [] [])]⟩ := by rfl
abbrev l6 : D := .lst [.int 1, .int 2, .int 3, .int 4, .int 5, .int 6]
abbrev l6W : List W := [.d (.int 1), .d (.int 2), .d (.int 3), .d (.int 4), .d (.int 5), .d (.int 6)]
def hdf : W → D
  | .d (.int l) => .tup [.int l, patD (Kh454.defaultHeading l.toNat)]
  | _ => .non
theorem si_heading (n : Nat) (m : Mu) (hm : m = [some ⟨.ins 1 [], []⟩]) : evE (run dfs (n + 3)) [some (.h 0), some (.d l6), none, none, none, none] m (.lc (.n 2) (.var 1) (.bl true) (.tup (.cons (.var 2) (.cons (.call i_default_heading (.cons (.var 2) (.nil))) (.nil))))) = .ok (.d (.lst hdP0)) m := by
  subst hm
  refine (ev_lc (us := l6W) (f := hdf) (by rfl) ?_ (by decide)).trans (by rfl)
  intro x hx
  simp only [List.mem_cons, List.not_mem_nil, or_false] at hx
  rcases hx with rfl | rfl | rfl | rfl | rfl | rfl <;> exact ⟨_, rfl, rfl, rfl⟩
def fnf : W → D
  | .d (.int l) => .tup [.int l, .int 1]
  | _ => .non
theorem si_first (n : Nat) (m : Mu) : evE (run dfs (n + 3)) [some (.h 0), some (.d l6), none, none, none, none] m (.lc (.n 2) (.var 1) (.bl true) (.tup (.cons (.var 2) (.cons (.int 1) (.nil))))) = .ok (.d (.lst fnP0)) m := by
  refine (ev_lc (us := l6W) (f := fnf) (by rfl) ?_ (by decide)).trans (by rfl)
  intro x hx
  simp only [List.mem_cons, List.not_mem_nil, or_false] at hx
  rcases hx with rfl | rfl | rfl | rfl | rfl | rfl <;> exact ⟨_, rfl, rfl, rfl⟩
abbrev fn0 : List D := [.int 1, .int 1, .int 1, .int 1, .int 1, .int 1]
abbrev rs0 : List D := [.int 0, .int 0, .int 0, .int 0]
def ctf : W → D
  | .kt (.tup [.str w, .str a, .str b]) => .tup [.str w, .lst (a.map (fun (c : Nat) => D.tup [.int (-1), .int (c : Int)]) ++ [.tup [.int 0, .int 0]] ++ b.map (fun (c : Nat) => D.tup [.int (-1), .int (c : Int)]))]
  | _ => .non
abbrev dfW : List W := [.kt (.tup [.str [102, 105, 103, 117, 114, 101], .str [70, 105, 103, 117, 114, 101, 32], .str []]), .kt (.tup [.str [116, 97, 98, 108, 101], .str [84, 97, 98, 108, 101, 32], .str []]), .kt (.tup [.str [102, 111, 114, 109, 117, 108, 97], .str [40], .str [41]]), .kt (.tup [.str [110, 111, 116, 101], .str [], .str []])]
theorem si_counted (n : Nat) (m : Mu) (hm : m = [some ⟨.ins 1 [.i 0, .i 1], [some (.dK k6 hd0), some (.dK k6 fn0)]⟩, none, none]) : evE (run dfs (n + 3)) [some (.h 0), some (.d l6), none, none, none, none] m (.lc (.t [3, 4, 5]) (.gt "DEFAULTS" (t_DEFAULTS)) (.bl true) (.tup (.cons (.var 3) (.cons (.call i_default_counted (.cons (.var 4) (.cons (.var 5) (.nil)))) (.nil))))) = .ok (.d (.lst ctP0)) m := by
  subst hm
  refine (ev_lc (us := dfW) (f := ctf) (by rfl) ?_ (by decide)).trans (by rfl)
  intro x hx
  simp only [List.mem_cons, List.not_mem_nil, or_false] at hx
  rcases hx with rfl | rfl | rfl | rfl <;> exact ⟨_, rfl, rfl, rfl⟩
def rsf : W → D
  | .d (.str w) => .tup [.str w, .int 0]
  | _ => .non
abbrev cwW : List W := [.d (.str [102, 105, 103, 117, 114, 101]), .d (.str [116, 97, 98, 108, 101]), .d (.str [102, 111, 114, 109, 117, 108, 97]), .d (.str [110, 111, 116, 101])]
theorem si_restart (n : Nat) (m : Mu) : evE (run dfs (n + 3)) [some (.h 0), some (.d l6), none, none, none, none] m (.lc (.n 3) (.gt "COUNTED" (t_COUNTED)) (.bl true) (.tup (.cons (.var 3) (.cons (.int (0)) (.nil))))) = .ok (.d (.lst rsP0)) m := by
  refine (ev_lc (us := cwW) (f := rsf) (by rfl) ?_ (by decide)).trans (by rfl)
  intro x hx
  simp only [List.mem_cons, List.not_mem_nil, or_false] at hx
  rcases hx with rfl | rfl | rfl | rfl <;> exact ⟨_, rfl, rfl, rfl⟩
theorem si_dict {C : Calls} {σ : Sl} {m : Mu} {f : Nat} {e : E} {x : D} {m2 m3 : Mu} {w v : W} (he : evE C σ m e = .ok (.d x) m) (hd : dictR m false (.d x) = .ok w m2) (hv : σ[0]? = some (some v)) (hs : sta m2 1 f v w = .ok () m3) : evS C σ m (.seta 1 f (.var 0) (.dict false e)) = .next σ m3 := by
  have h0 : evE C σ m2 (.var 0) = .ok v m2 := e_var hv
  simp only [evS, evE, he, Res.bind_ok, hd, Res.toS_ok] at h0 ⊢
  simp only [h0, Res.toS_ok, hs]
theorem si_1 (n : Nat) : evS (run dfs (n + 3)) [some (.h 0), none, none, none, none, none] [some ⟨.ins 1 [], []⟩] (.asg 1 (.rngL (.int (1)) (.bin .add (.gi "MOST_LEVEL_settings" (6)) (.int (1))))) = .next [some (.h 0), some (.d l6), none, none, none, none] [some ⟨.ins 1 [], []⟩] := by rfl
theorem r_Settings_init (n : Nat) : run dfs (n + 4) i_Settings___init__ [.h 0] [some ⟨.ins 1 [], []⟩] = .ok (.d .non) [stO Kh454.defaultSettings] := by
  have hst : start f_Settings___init__ [.h 0] = [some (.h 0), none, none, none, none, none] := rfl
  have hbd : f_Settings___init__.body = b_Settings___init__ := rfl
  have hnp : ([W.h 0] : List W).length = f_Settings___init__.np := rfl
  rw [run_at (d := f_Settings___init__) rfl, st_default, runD, if_pos hnp, hst, hbd]
  unfold b_Settings___init__
  rw [evSs_cons, si_1, SR.then_next, evSs_cons, si_dict (m3 := [some ⟨.ins 1 [.i 0], [some (.dK k6 hd0)]⟩, none]) (si_heading n _ rfl) (by rfl) rfl (by rfl), SR.then_next, evSs_cons,
    si_dict (m3 := [some ⟨.ins 1 [.i 0, .i 1], [some (.dK k6 hd0), some (.dK k6 fn0)]⟩, none, none]) (si_first n _) (by rfl) rfl (by rfl), SR.then_next, evSs_cons,
    si_dict (m3 := [some ⟨.ins 1 [.i 0, .i 1, .i 2], [some (.dK k6 hd0), some (.dK k6 fn0), some (.dK w4 ct0)]⟩, none, none, none]) (si_counted n _ rfl) (by rfl) rfl (by rfl), SR.then_next, evSs_cons,
    si_dict (m3 := [some ⟨.ins 1 [.i 0, .i 1, .i 2, .i 3], [some (.dK k6 hd0), some (.dK k6 fn0), some (.dK w4 ct0), some (.dK w4 rs0)]⟩, none, none, none, none]) (si_restart n _) (by rfl) rfl (by rfl), SR.then_next, evSs_one]
  have h5 : evS (run dfs (n + 3)) [some (.h 0), some (.d l6), none, none, none, none] [some ⟨.ins 1 [.i 0, .i 1, .i 2, .i 3], [some (.dK k6 hd0), some (.dK k6 fn0), some (.dK w4 ct0), some (.dK w4 rs0)]⟩, none, none, none, none] (.seta 1 4 (.var 0) (.dicM true)) = .next [some (.h 0), some (.d l6), none, none, none, none] [some ⟨.ins 1 [.i 0, .i 1, .i 2, .i 3, .i 4], [some (.dK k6 hd0), some (.dK k6 fn0), some (.dK w4 ct0), some (.dK w4 rs0), some (.dT [] [])]⟩, none, none, none, none, none] := by rfl
  rw [h5]
  rfl
end UT
end Cn

namespace Cn
namespace UT
open Kh454 (Settings)
def valD : Kh450.Node → D
  | .symbol _ n => .str n
  | .integer _ n => .int (n : Int)
  | .string _ t => .tup (nD t)
  | .list _ is => .lst (nodesD is)
theorem node_eq (x : Kh450.Node) : nodeD x = .tup [valD x, .int (x.position : Int)] := by
  cases x <;> rfl
theorem run_body {T : List Df} {n f : Nat} {d : Df} (h : T[f]? = some d) {ws : List W} {m : Mu} {σ : Sl} {b : Ss} (hn : ws.length = d.np) (hs : start d ws = σ) (hb : d.body = b) : run T (n + 1) f ws m = endS m.length (evSs (run T n) σ m b) := by
  rw [run_at h, runD, if_pos hn, hs, hb]
theorem take_all (m : Mu) : m.take m.length = m := List.take_of_length_le (Nat.le_refl _)
theorem unp34 {C : Calls} {m : Mu} {a b : D} {x1 x2 : Option W} : evS C [some (.d (.tup [a, b])), x1, x2, none, none] m (.asgT [3, 4] (.var 0)) = .next [some (.d (.tup [a, b])), x1, x2, some (.d a), some (.d b)] m := by rfl
theorem unp12 {C : Calls} {m : Mu} {a b : D} : evS C [some (.d (.tup [a, b])), none, none] m (.asgT [1, 2] (.var 0)) = .next [some (.d (.tup [a, b])), some (.d a), some (.d b)] m := by rfl
/-- what may be told: a value, or the kind and the place of a fault -/
def tellR {α : Type} (c : Kh450.Checked α) (f : α → W) (m : Mu) : Res W := match c with
  | .ok v => .ok (f v) m
  | .error e => .exc ⟨0, [(e.1 : Int), (e.2 : Int)]⟩ m
def isIntN : Kh450.Node → Bool
  | .integer _ _ => true
  | _ => false
def isTxtN : Kh450.Node → Bool
  | .string _ _ => true
  | _ => false
theorem isi_int (m : Mu) (x : Kh450.Node) : isiR m .int (.d (valD x)) = .ok (isIntN x) m := by cases x <;> rfl
theorem isi_tup (m : Mu) (x : Kh450.Node) : isiR m .tuple (.d (valD x)) = .ok (isTxtN x) m := by cases x <;> rfl
theorem e_isi {C : Calls} {σ : Sl} {m : Mu} {t : Ty} {a : E} {w : W} {b : Bool} (ha : evE C σ m a = .ok w m) (h : isiR m t w = .ok b m) : evE C σ m (.isi t a) = .ok (.d (.bl b)) m := by
  rw [evE, ha, Res.bind_ok, h]; rfl
theorem s_chk {n : Nat} {σ : Sl} {m : Mu} {c : E} {x : String} {k : Int} {p : E} {b : Bool} {i : Int} (hc : evE (run dfs (n + 1)) σ m c = .ok (.d (.bl b)) m) (hp : evE (run dfs (n + 1)) σ m p = .ok (.d (.int i)) m) : evS (run dfs (n + 1)) σ m (.ex (.call i_check_place (.cons c (.cons (.gi x k) (.cons p .nil))))) = if b then .next σ m else .exc ⟨0, [k, i]⟩ σ m := by
  have h := e_call3 (f := i_check_place) hc (e_gi x k) hp
  rw [r_check] at h
  cases b with
  | true => rw [if_pos rfl] at h ⊢; exact s_ex h
  | false => rw [if_neg (by decide)] at h ⊢; exact s_exX h
theorem r_whole_at (n lo hi : Nat) (m : Mu) (x : Kh450.Node) : run dfs (n + 2) i_whole_at [.d (nodeD x), .d (.int (lo : Int)), .d (.int (hi : Int))] m = tellR (Kh454.numberIn lo hi x) (fun v => .d (.int (v : Int))) m := by
  rw [run_body (d := f_whole_at) (σ := [some (.d (nodeD x)), some (.d (.int (lo : Int))), some (.d (.int (hi : Int))), none, none]) (b := b_whole_at) rfl rfl rfl rfl, node_eq]
  unfold b_whole_at
  rw [evSs_cons, unp34, SR.then_next, evSs_cons, s_chk (e_isi (e_var (v := 3) rfl) (isi_int m x)) (e_var (v := 4) rfl)]
  cases x with
  | integer p v =>
    rw [isIntN, if_pos rfl, SR.then_next, evSs_cons]
    have c : evE (run dfs (n + 1)) [some (.d (.tup [valD (.integer p v), .int (p : Int)])), some (.d (.int (lo : Int))), some (.d (.int (hi : Int))), some (.d (valD (.integer p v))), some (.d (.int (p : Int)))] m (.ch .le .le (.var 1) (.var 3) (.var 2)) = .ok (.d (.bl (decide ((lo : Int) ≤ v) && decide ((v : Int) ≤ hi)))) m := ch_int (e_var (v := 1) rfl) (e_var (v := 3) rfl) (e_var (v := 2) rfl)
    rw [show Kh450.Node.position (.integer p v) = p from rfl, s_chk c (e_var (v := 4) rfl)]
    show _ = tellR (if lo ≤ v ∧ v ≤ hi then .ok v else Kh450.fail 9 p) _ m
    by_cases h : lo ≤ v ∧ v ≤ hi
    · rw [if_pos h, if_pos (by simp; omega), SR.then_next, evSs_one, s_ret (e_var (v := 3) rfl)]
      show Res.ok _ _ = _
      rw [take_all]; rfl
    · rw [if_neg h, if_neg (by simp; omega), SR.then_exc]
      show Res.exc _ _ = _
      rw [take_all]; rfl
  | symbol p v => show Res.exc _ (m.take m.length) = _; rw [take_all]; rfl
  | string p v => show Res.exc _ (m.take m.length) = _; rw [take_all]; rfl
  | list p v => show Res.exc _ (m.take m.length) = _; rw [take_all]; rfl
theorem r_text_at (n : Nat) (m : Mu) (x : Kh450.Node) : run dfs (n + 2) i_text_at [.d (nodeD x)] m = tellR (Kh450.stringOf x) (fun t => .d (.tup (nD t))) m := by
  rw [run_body (d := f_text_at) (σ := [some (.d (nodeD x)), none, none]) (b := b_text_at) rfl rfl rfl rfl, node_eq]
  unfold b_text_at
  rw [evSs_cons, unp12, SR.then_next, evSs_cons, s_chk (e_isi (e_var (v := 1) rfl) (isi_tup m x)) (e_var (v := 2) rfl)]
  cases x with
  | string p v =>
    rw [isTxtN, if_pos rfl, SR.then_next, evSs_one, s_ret (e_var (v := 1) rfl)]
    show Res.ok _ (m.take m.length) = _
    rw [take_all]; rfl
  | symbol p v => show Res.exc _ (m.take m.length) = _; rw [take_all]; rfl
  | integer p v => show Res.exc _ (m.take m.length) = _; rw [take_all]; rfl
  | list p v => show Res.exc _ (m.take m.length) = _; rw [take_all]; rfl
theorem r_pattern_at (n : Nat) (m : Mu) (x : Kh450.Node) (hx : sizeN x < 999999) : run dfs (n + 4) i_pattern_at [.d (nodeD x)] m = tellR (Kh454.patternOf x) (fun p => .d (patD p)) m := by
  rw [run_body (d := f_pattern_at) (σ := [some (.d (nodeD x)), none, none]) (b := b_pattern_at) rfl rfl rfl rfl]
  unfold b_pattern_at
  have h1 := e_call1 (C := run dfs (n + 3)) (σ := [some (.d (nodeD x)), none, none]) (m := m) (f := i_text_at) (e_var (v := 0) rfl)
  rw [r_text_at (n + 1)] at h1
  unfold Kh454.patternOf
  cases hs : Kh450.stringOf x with
  | error e =>
    rw [hs] at h1
    have h1' : evS (run dfs (n + 3)) [some (.d (nodeD x)), none, none] m (.asg 1 (.call i_text_at (.cons (.var 0) .nil))) = .exc ⟨0, [(e.1 : Int), (e.2 : Int)]⟩ [some (.d (nodeD x)), none, none] m := by
      simp only [evS, h1, tellR, Res.toS_exc]
    rw [evSs_cons, h1', SR.then_exc]
    show Res.exc _ (m.take m.length) = _
    rw [take_all]; rfl
  | ok t =>
    rw [hs] at h1
    obtain ⟨p, rfl⟩ : ∃ p, x = .string p t := by
      cases x with
      | string p u => cases hs; exact ⟨p, rfl⟩
      | symbol p u => cases hs
      | integer p u => cases hs
      | list p u => cases hs
    have ht : t.length < 999999 := by rw [sizeN] at hx; omega
    rw [evSs_cons, s_asg h1, SR.then_next, evSs_cons]
    show endS m.length ((evS (run dfs (n + 3)) [some (.d (nodeD (.string p t))), some (.d (.tup (nD t))), none] m (.asg 2 .non)).then _) = _
    have h2 : evE (run dfs (n + 3)) [some (.d (nodeD (.string p t))), some (.d (.tup (nD t))), none] m .non = .ok (.d .non) m := by simp only [evE]
    rw [s_asg h2, SR.then_next, evSs_cons]
    show endS m.length ((evS (run dfs (n + 3)) [some (.d (nodeD (.string p t))), some (.d (.tup (nD t))), some (.d .non)] m (.tryN _ 1 2)).then _) = _
    have h3 := e_call1 (C := run dfs (n + 3)) (σ := [some (.d (nodeD (.string p t))), some (.d (.tup (nD t))), some (.d .non)]) (m := m) (f := i_pieces_of) (e_var (v := 1) rfl)
    rw [r_pieces (n + 1) t m ht] at h3
    have pl : ∀ y : Option W, evE (run dfs (n + 3)) [some (.d (nodeD (.string p t))), some (.d (.tup (nD t))), y] m (.ix (.var 0) (.int 1)) = .ok (.d (.int (p : Int))) m := by
      intro y
      rw [node_eq]; rfl
    have hpat : Kh454.parsePattern t = Kh454.parsePatternLoop (t.length + 1) t := rfl
    show _ = tellR (match Kh454.parsePattern t with
      | some p => .ok p
      | none => Kh450.fail 9 (Kh450.Node.position (.string p t))) _ m
    cases hp : Kh454.parsePattern t with
    | none =>
      rw [hp] at h3
      dsimp only at h3
      have h4 : evS (run dfs (n + 3)) [some (.d (nodeD (.string p t))), some (.d (.tup (nD t))), some (.d .non)] m (.tryN (.cons (.asg 2 (.call i_pieces_of (.cons (.var 1) (.nil)))) (.nil)) 1 2) = .next [some (.d (nodeD (.string p t))), some (.d (.tup (nD t))), some (.d .non)] m := by
        have h5 : evS (run dfs (n + 3)) [some (.d (nodeD (.string p t))), some (.d (.tup (nD t))), some (.d .non)] m (.asg 2 (.call i_pieces_of (.cons (.var 1) (.nil)))) = .exc ⟨1, []⟩ [some (.d (nodeD (.string p t))), some (.d (.tup (nD t))), some (.d .non)] m := by
          simp only [evS, h3, Res.toS_exc]
        rw [evS, evSs_one, h5]; rfl
      rw [h4, SR.then_next, evSs_cons]
      have c : evE (run dfs (n + 3)) [some (.d (nodeD (.string p t))), some (.d (.tup (nD t))), some (.d .non)] m (.cmp .notN (.var 2) .non) = .ok (.d (.bl false)) m := by rfl
      rw [s_chk c (pl _), if_neg (by decide), SR.then_exc]
      show Res.exc _ (m.take m.length) = _
      rw [take_all]; rfl
    | some ps =>
      rw [hp] at h3
      dsimp only at h3
      have ok := (ppl_ok _ _ _ (hpat.symm.trans hp)).1
      have e : D.lst (ps.map partD) = patD ps := by rw [patD, parts_map ok]
      rw [e] at h3
      have h4 : evS (run dfs (n + 3)) [some (.d (nodeD (.string p t))), some (.d (.tup (nD t))), some (.d .non)] m (.tryN (.cons (.asg 2 (.call i_pieces_of (.cons (.var 1) (.nil)))) (.nil)) 1 2) = .next [some (.d (nodeD (.string p t))), some (.d (.tup (nD t))), some (.d (patD ps))] m := by
        rw [evS, evSs_one, s_asg h3]; rfl
      rw [h4, SR.then_next, evSs_cons]
      have c : evE (run dfs (n + 3)) [some (.d (nodeD (.string p t))), some (.d (.tup (nD t))), some (.d (patD ps))] m (.cmp .notN (.var 2) .non) = .ok (.d (.bl true)) m := by rfl
      rw [s_chk c (pl _), if_pos rfl, SR.then_next, evSs_one, s_ret (e_var (v := 2) rfl)]
      show Res.ok _ (m.take m.length) = _
      rw [take_all]; rfl
end UT
end Cn

namespace Cn
namespace UT
open Kh454 (Settings)
theorem s_setx {C : Calls} {σ : Sl} {m m2 : Mu} {o k e : E} {w x y : W} (he : evE C σ m e = .ok w m) (ho : evE C σ m o = .ok x m) (hk : evE C σ m k = .ok y m) (h : stx m x y w = .ok () m2) : evS C σ m (.setx o k e) = .next σ m2 := by
  simp only [evS, he, ho, hk, h, Res.toS_ok]
theorem s_setxX {C : Calls} {σ : Sl} {m m2 : Mu} {o k e : E} {x : Xn} (he : evE C σ m e = .exc x m2) : evS C σ m (.setx o k e) = .exc x σ m2 := by
  simp only [evS, he, Res.toS_exc]
theorem s_asgX {C : Calls} {σ : Sl} {m m2 : Mu} {i : Nat} {e : E} {x : Xn} (he : evE C σ m e = .exc x m2) : evS C σ m (.asg i e) = .exc x σ m2 := by
  simp only [evS, he, Res.toS_exc]
/-! ### the skipped classes -/
theorem once_add (l : List (List Nat)) (t : List Nat) : once (l ++ [t]) = if t ∈ once l then once l else once l ++ [t] := by
  unfold once
  rw [List.foldl_append]; rfl
theorem intsN_inj : ∀ {a b : List Nat}, intsN a = intsN b → a = b
  | [], [], _ => rfl
  | [], _ :: _, h => by cases h
  | _ :: _, [], h => by cases h
  | x :: a, y :: b, h => by
    simp only [intsN, List.map_cons, List.cons.injEq] at h
    have h1 : x = y := by omega
    rw [h1, intsN_inj (a := a) (b := b) h.2]
theorem intsN_mem {t : List Nat} {l : List (List Nat)} : intsN t ∈ l.map intsN ↔ t ∈ l := by
  rw [List.mem_map]
  constructor
  · rintro ⟨u, hu, e⟩
    rw [← intsN_inj e]; exact hu
  · exact fun h => ⟨t, h, rfl⟩
theorem intDs_nD : ∀ t : List Nat, intDs (nD t) = some (intsN t)
  | [] => rfl
  | x :: t => by
    show (match intD (.int (x : Int)), intDs (nD t) with | some i, some r => some (i :: r) | _, _ => none) = _
    rw [intDs_nD t]; rfl
theorem zip_true {κ : Type} [DecidableEq κ] (k : κ) : ∀ (ks : List κ) {α : Type} (as : List α), as.length = ks.length → List.zipWith (fun a x => if a = k then D.bl true else x) ks (as.map fun _ => D.bl true) = as.map fun _ => D.bl true
  | [], α, [], _ => rfl
  | [], α, _ :: _, h => by cases h
  | _ :: _, α, [], h => by cases h
  | x :: ks, α, y :: as, h => by
    rw [List.map_cons, List.zipWith_cons_cons, zip_true k ks as (by simpa using h)]
    split <;> rfl
theorem once_len (l : List (List Nat)) : (once l).length ≤ l.length := by
  have : ∀ (l ks : List (List Nat)), (l.foldl (fun ks t => if t ∈ ks then ks else ks ++ [t]) ks).length ≤ ks.length + l.length := by
    intro l
    induction l with
    | nil => intro ks; exact Nat.le_refl _
    | cons t l ih =>
      intro ks
      rw [List.foldl_cons]
      refine Nat.le_trans (ih _) ?_
      split
      · simp
      · simp; omega
  have h := this l []
  simp only [List.length_nil, Nat.zero_add] at h
  exact h
theorem stx_skip (s : Settings) (t : List Nat) (h : s.skipped.length < 999999) : stx [stO s] (.hi 0 4) (.d (.tup (nD t))) (.d (.bl true)) = .ok () [stO { s with skipped := s.skipped ++ [t] }] := by
  have h1 := once_len s.skipped
  have e : stx [stO s] (.hi 0 4) (.d (.tup (nD t))) (.d (.bl true)) = (match toKt (.tup (nD t)) with | some k => stKt [stO s] (.hi 0 4) ((once s.skipped).map intsN) ((once s.skipped).map fun _ => .bl true) k (.bl true) | none => .stuck) := rfl
  have e2 : toKt (.tup (nD t)) = some (intsN t) := intDs_nD t
  rw [e, e2]
  dsimp only
  rw [stKt, guardR_of (by simp; unfold line; omega)]
  unfold putA
  by_cases hm : t ∈ once s.skipped
  · rw [if_pos (intsN_mem.mpr hm), zip_true _ _ _ (by simp)]
    have : once (s.skipped ++ [t]) = once s.skipped := by rw [once_add, if_pos hm]
    show Res.ok () [some ⟨_, _⟩] = Res.ok () [some ⟨_, _⟩]
    simp only [skF, this]
    rfl
  · rw [if_neg (fun h => hm (intsN_mem.mp h))]
    have : once (s.skipped ++ [t]) = once s.skipped ++ [t] := by rw [once_add, if_neg hm]
    show Res.ok () [some ⟨_, _⟩] = Res.ok () [some ⟨_, _⟩]
    simp only [skF, this, List.map_append, List.map_cons, List.map_nil]
    rfl
/-- what a setting comes to -/
def TkS (R : SR) : Kh450.Checked Settings → Prop
  | .ok s => ∃ σ, R = .next σ [stO s]
  | .error e => ∃ σ m, R = .exc ⟨0, [(e.1 : Int), (e.2 : Int)]⟩ σ m
def TkR (R : Res W) : Kh450.Checked Settings → Prop
  | .ok s => R = .ok (.d .non) [stO s]
  | .error e => ∃ m, R = .exc ⟨0, [(e.1 : Int), (e.2 : Int)]⟩ m
theorem tk_end {R : SR} {c : Kh450.Checked Settings} {m : Mu} (hm : m.length = 1) (h : TkS R c) : TkR (endS m.length R) c := by
  rw [hm]
  cases c with
  | ok s => obtain ⟨σ, h⟩ := h; rw [h]; rfl
  | error e => obtain ⟨σ, m, h⟩ := h; rw [h]; exact ⟨_, rfl⟩
theorem tk_ex {C : Calls} {σ : Sl} {m : Mu} {e : E} {c : Kh450.Checked Settings} (h : TkR (evE C σ m e) c) : TkS (evS C σ m (.ex e)) c := by
  cases c with
  | ok s => exact ⟨σ, s_ex h⟩
  | error e => obtain ⟨m', h⟩ := h; exact ⟨σ, m', s_exX h⟩
theorem str_of {x : Kh450.Node} {t : Kh450.Text} (h : Kh450.stringOf x = .ok t) : ∃ p, x = .string p t := by
  cases x with
  | string p u => cases h; exact ⟨p, rfl⟩
  | symbol p u => cases h
  | integer p u => cases h
  | list p u => cases h
theorem r_take_skip (n : Nat) (s : Settings) (x : Kh450.Node) (hx : sizeN x < 999999) (hs : s.skipped.length < 999999) : TkR (run dfs (n + 3) i_Settings_take_skip [.h 0, .d (nodeD x)] [stO s]) ((Kh450.labelOf x).map fun t => { s with skipped := s.skipped ++ [t] }) := by
  rw [run_body (d := f_Settings_take_skip) (σ := [some (.h 0), some (.d (nodeD x)), none]) (b := b_Settings_take_skip) rfl rfl rfl rfl]
  refine tk_end rfl ?_
  unfold b_Settings_take_skip
  have h1 := e_call1 (C := run dfs (n + 2)) (σ := [some (.h 0), some (.d (nodeD x)), none]) (m := [stO s]) (f := i_text_at) (e_var (v := 1) rfl)
  rw [r_text_at n] at h1
  unfold Kh450.labelOf
  cases ht : Kh450.stringOf x with
  | error e =>
    rw [ht] at h1
    rw [evSs_cons, s_asgX h1, SR.then_exc]
    exact ⟨_, _, rfl⟩
  | ok t =>
    rw [ht] at h1
    obtain ⟨p, rfl⟩ := str_of ht
    have htl : t.length < 999999 := by rw [sizeN] at hx; omega
    rw [evSs_cons, s_asg h1, SR.then_next, evSs_cons]
    have hσ : ([some (.h 0), some (.d (nodeD (.string p t))), none] : Sl).set 2 (some (.d (.tup (nD t)))) = [some (.h 0), some (.d (nodeD (.string p t))), some (.d (.tup (nD t)))] := rfl
    rw [hσ]
    have h2 := e_call1 (C := run dfs (n + 2)) (σ := [some (.h 0), some (.d (nodeD (.string p t))), some (.d (.tup (nD t)))]) (m := [stO s]) (f := i_is_label) (e_var (v := 2) rfl)
    rw [r_is_label n t _ (by unfold line; omega)] at h2
    have pl : evE (run dfs (n + 2)) [some (.h 0), some (.d (nodeD (.string p t))), some (.d (.tup (nD t)))] [stO s] (.ix (.var 1) (.int 1)) = .ok (.d (.int (p : Int))) [stO s] := by
      rw [node_eq]; rfl
    rw [s_chk h2 pl]
    show TkS _ (Except.map _ (if Kh450.isLabel t = true then .ok t else Kh450.fail 9 p))
    by_cases hl : Kh450.isLabel t = true
    · rw [if_pos hl, if_pos hl, SR.then_next, evSs_one, s_setx (e := .bl true) (w := .d (.bl true)) (by simp only [evE]) (x := .hi 0 4) (by rfl) (e_var (v := 2) rfl) (stx_skip s t hs)]
      exact ⟨_, rfl⟩
    · rw [if_neg hl, if_neg hl, SR.then_exc]
      exact ⟨_, _, rfl⟩
end UT
end Cn

namespace Cn
namespace UT
open Kh454 (Settings)
abbrev tkA1 : Ss := .cons (.ex (.meth 1 i_Settings_take_skip (.var 0) (.cons (.ix (.var 3) (.int (0))) (.nil)))) (.nil)
abbrev tkA2 : Ss := .cons (.asg 6 (.call i_pattern_at (.cons (.ix (.var 3) (.int (0))) (.nil)))) (.cons (.setx (.at 1 3 (.var 0)) (.var 2) (.call i_whole_at (.cons (.ix (.var 3) (.int (1))) (.cons (.int (0)) (.cons (.gi "MOST_LEVEL_settings" (6)) (.nil)))))) (.cons (.setx (.at 1 2 (.var 0)) (.var 2) (.var 6)) (.nil)))
abbrev tkA3 : Ss := .cons (.ex (.meth 1 i_Settings_take_level (.var 0) (.cons (.var 2) (.cons (.var 3) (.nil))))) (.nil)
abbrev tkI2 : S := .if_ (.cmp .in_ (.var 2) (.gt "COUNTED" (t_COUNTED))) tkA2 tkA3
abbrev tkI : S := .if_ (.cmp .eq (.var 2) (.str [115, 107, 105, 112])) tkA1 (.cons tkI2 .nil)
/-- what is kept of patterns -/
def PatOk (p : Kh454.Pattern) : Prop := p.length < 999999 ∧ ∀ q ∈ p, match q with
  | .text t => t.length ≤ 7
  | .level _ n => 1 ≤ n ∧ n ≤ 6
  | .counter _ => True
structure SOk (s : Settings) : Prop where
  hl : s.headings.length = 6
  sl : s.starts.length = 6
  hn : ∀ p, some p ∈ s.headings → PatOk p ∧ p.flatMap partsD ≠ []
  sn : ∀ x ∈ s.starts, x < 9999
  f : PatOk s.figure.pattern ∧ s.figure.restart ≤ 6
  t : PatOk s.table.pattern ∧ s.table.restart ≤ 6
  e : PatOk s.formula.pattern ∧ s.formula.restart ≤ 6
  n : PatOk s.note.pattern ∧ s.note.restart ≤ 6
  k : ∀ t ∈ s.skipped, t.length < 999999
theorem six {α : Type} {l : List α} (h : l.length = 6) : ∃ a b c d e f, l = [a, b, c, d, e, f] := by
  match l, h with
  | [a, b, c, d, e, f], _ => exact ⟨a, b, c, d, e, f, rfl⟩
theorem six_of {l : Nat} (h : 1 ≤ l ∧ l ≤ 6) : l = 1 ∨ l = 2 ∨ l = 3 ∨ l = 4 ∨ l = 5 ∨ l = 6 := by omega
theorem stx_head (s : Settings) (h : s.headings.length = 6) {l : Nat} (hl : 1 ≤ l ∧ l ≤ 6) (z : Option Kh454.Pattern) : stx [stO s] (.hi 0 0) (.d (.int (l : Int))) (.d (patD (z.getD []))) = .ok () [stO { s with headings := s.headings.set (l - 1) z }] := by
  cases s with
  | mk hd st fg tb fm nt sk =>
    obtain ⟨a, b, c, d, e, f, rfl⟩ := six h
    rcases six_of hl with rfl | rfl | rfl | rfl | rfl | rfl <;> rfl
theorem stx_start (s : Settings) (h : s.starts.length = 6) {l : Nat} (hl : 1 ≤ l ∧ l ≤ 6) (x : Nat) (hx : 1 ≤ x) : stx [stO s] (.hi 0 1) (.d (.int (l : Int))) (.d (.int (x : Int))) = .ok () [stO { s with starts := s.starts.set (l - 1) (x - 1) }] := by
  obtain ⟨x, rfl⟩ : ∃ y, x = y + 1 := ⟨x - 1, by omega⟩
  cases s with
  | mk hd st fg tb fm nt sk =>
    obtain ⟨a, b, c, d, e, f, rfl⟩ := six h
    rcases six_of hl with rfl | rfl | rfl | rfl | rfl | rfl <;> rfl
theorem getD_if (p : Kh454.Pattern) : (if p.isEmpty then none else some p : Option Kh454.Pattern).getD [] = p := by
  cases p <;> rfl
theorem num_in {lo hi : Nat} {x : Kh450.Node} {v : Nat} (h : Kh454.numberIn lo hi x = .ok v) : lo ≤ v ∧ v ≤ hi := by
  cases x with
  | integer p n =>
    by_cases hc : lo ≤ n ∧ n ≤ hi
    · have : Kh454.numberIn lo hi (.integer p n) = .ok n := by
        show (if lo ≤ n ∧ n ≤ hi then _ else _) = _
        rw [if_pos hc]
      rw [this] at h; cases h; exact hc
    · have : Kh454.numberIn lo hi (.integer p n) = Kh450.fail 9 p := by
        show (if lo ≤ n ∧ n ≤ hi then _ else _) = _
        rw [if_neg hc]
      rw [this] at h; cases h
  | symbol p n => cases h
  | string p n => cases h
  | list p n => cases h
theorem e_whole {n lo hi : Nat} {li ui : Int} {σ : Sl} {m : Mu} {e : E} {g : String} {x : Kh450.Node} (h1 : li = (lo : Int)) (h2 : ui = (hi : Int)) (he : evE (run dfs (n + 2)) σ m e = .ok (.d (nodeD x)) m) : evE (run dfs (n + 2)) σ m (.call i_whole_at (.cons e (.cons (.int li) (.cons (.gi g ui) .nil)))) = tellR (Kh454.numberIn lo hi x) (fun v => .d (.int (v : Int))) m := by
  rw [e_call3 (f := i_whole_at) he (e_int li) (e_gi g ui), h1, h2, r_whole_at]
abbrev hgW : List Nat := [104, 101, 97, 100, 105, 110, 103]
abbrev stW : List Nat := [115, 116, 97, 114, 116]
theorem s_ifX {C : Calls} {σ : Sl} {m : Mu} {c : E} {a b : Ss} {x : Bool} (h : evE C σ m c = .ok (.d (.bl x)) m) : evS C σ m (.if_ c a b) = if x then evSs C σ m a else evSs C σ m b := s_if h
theorem r_level_h (n : Nat) (s : Settings) (a b : Kh450.Node) (hs : s.headings.length = 6) (hb : sizeN b < 999999) : TkR (run dfs (n + 5) i_Settings_take_level [.h 0, .d (.str hgW), .d (.lst [nodeD a, nodeD b])] [stO s])
    ((Kh454.numberIn 1 6 a).bind fun l => (Kh454.patternOf b).map fun x => { s with headings := s.headings.set (l - 1) (if x.isEmpty then none else some x) }) := by
  rw [run_body (d := f_Settings_take_level) (σ := [some (.h 0), some (.d (.str hgW)), some (.d (.lst [nodeD a, nodeD b])), none]) (b := b_Settings_take_level) rfl rfl rfl rfl]
  refine tk_end rfl ?_
  unfold b_Settings_take_level
  have e0 : evE (run dfs (n + 4)) [some (.h 0), some (.d (.str hgW)), some (.d (.lst [nodeD a, nodeD b])), none] [stO s] (.ix (.var 2) (.int 0)) = .ok (.d (nodeD a)) [stO s] := by rfl
  have h1 := e_whole (n := n + 2) (lo := 1) (hi := 6) (li := 1) (ui := 6) (g := "MOST_LEVEL_settings") rfl rfl e0
  cases hn : Kh454.numberIn 1 6 a with
  | error e =>
    rw [hn] at h1
    rw [evSs_cons, s_asgX h1, SR.then_exc]
    exact ⟨_, _, rfl⟩
  | ok l =>
    rw [hn] at h1
    rw [evSs_cons, s_asg h1, SR.then_next, evSs_one]
    have hσ : ([some (.h 0), some (.d (.str hgW)), some (.d (.lst [nodeD a, nodeD b])), none] : Sl).set 3 (some (.d (.int (l : Int)))) = [some (.h 0), some (.d (.str hgW)), some (.d (.lst [nodeD a, nodeD b])), some (.d (.int (l : Int)))] := rfl
    rw [hσ]
    have hc : evE (run dfs (n + 4)) [some (.h 0), some (.d (.str hgW)), some (.d (.lst [nodeD a, nodeD b])), some (.d (.int (l : Int)))] [stO s] (.cmp .eq (.var 1) (.str hgW)) = .ok (.d (.bl true)) [stO s] := by rfl
    rw [s_if hc, if_pos rfl, evSs_one]
    have e1 : evE (run dfs (n + 4)) [some (.h 0), some (.d (.str hgW)), some (.d (.lst [nodeD a, nodeD b])), some (.d (.int (l : Int)))] [stO s] (.ix (.var 2) (.int 1)) = .ok (.d (nodeD b)) [stO s] := by rfl
    have h2 := e_call1 (f := i_pattern_at) e1
    rw [r_pattern_at n _ b hb] at h2
    show TkS _ ((Kh454.patternOf b).map _)
    cases hp : Kh454.patternOf b with
    | error e =>
      rw [hp] at h2
      rw [s_setxX h2]
      exact ⟨_, _, rfl⟩
    | ok p =>
      rw [hp] at h2
      have h3 := stx_head s hs (num_in hn) (if p.isEmpty then none else some p)
      rw [getD_if] at h3
      rw [s_setx h2 (x := .hi 0 0) (by rfl) (e_var (v := 3) rfl) h3]
      exact ⟨_, rfl⟩
theorem r_level_s (n : Nat) (s : Settings) (a b : Kh450.Node) (hs : s.starts.length = 6) : TkR (run dfs (n + 5) i_Settings_take_level [.h 0, .d (.str stW), .d (.lst [nodeD a, nodeD b])] [stO s])
    ((Kh454.numberIn 1 6 a).bind fun l => (Kh454.numberIn 1 9999 b).map fun x => { s with starts := s.starts.set (l - 1) (x - 1) }) := by
  rw [run_body (d := f_Settings_take_level) (σ := [some (.h 0), some (.d (.str stW)), some (.d (.lst [nodeD a, nodeD b])), none]) (b := b_Settings_take_level) rfl rfl rfl rfl]
  refine tk_end rfl ?_
  unfold b_Settings_take_level
  have e0 : evE (run dfs (n + 4)) [some (.h 0), some (.d (.str stW)), some (.d (.lst [nodeD a, nodeD b])), none] [stO s] (.ix (.var 2) (.int 0)) = .ok (.d (nodeD a)) [stO s] := by rfl
  have h1 := e_whole (n := n + 2) (lo := 1) (hi := 6) (li := 1) (ui := 6) (g := "MOST_LEVEL_settings") rfl rfl e0
  cases hn : Kh454.numberIn 1 6 a with
  | error e =>
    rw [hn] at h1
    rw [evSs_cons, s_asgX h1, SR.then_exc]
    exact ⟨_, _, rfl⟩
  | ok l =>
    rw [hn] at h1
    rw [evSs_cons, s_asg h1, SR.then_next, evSs_one]
    have hσ : ([some (.h 0), some (.d (.str stW)), some (.d (.lst [nodeD a, nodeD b])), none] : Sl).set 3 (some (.d (.int (l : Int)))) = [some (.h 0), some (.d (.str stW)), some (.d (.lst [nodeD a, nodeD b])), some (.d (.int (l : Int)))] := rfl
    rw [hσ]
    have hc : evE (run dfs (n + 4)) [some (.h 0), some (.d (.str stW)), some (.d (.lst [nodeD a, nodeD b])), some (.d (.int (l : Int)))] [stO s] (.cmp .eq (.var 1) (.str hgW)) = .ok (.d (.bl false)) [stO s] := by rfl
    rw [s_if hc, if_neg (by decide), evSs_one]
    have e1 : evE (run dfs (n + 4)) [some (.h 0), some (.d (.str stW)), some (.d (.lst [nodeD a, nodeD b])), some (.d (.int (l : Int)))] [stO s] (.ix (.var 2) (.int 1)) = .ok (.d (nodeD b)) [stO s] := by rfl
    have h2 := e_whole (n := n + 2) (lo := 1) (hi := 9999) (li := 1) (ui := 9999) (g := "MOST_START") rfl rfl e1
    show TkS _ ((Kh454.numberIn 1 9999 b).map _)
    cases hp : Kh454.numberIn 1 9999 b with
    | error e =>
      rw [hp] at h2
      rw [s_setxX h2]
      exact ⟨_, _, rfl⟩
    | ok x =>
      rw [hp] at h2
      have h3 := stx_start s hs (num_in hn) x (num_in hp).1
      rw [s_setx h2 (x := .hi 0 1) (by rfl) (e_var (v := 3) rfl) h3]
      exact ⟨_, rfl⟩
end UT
end Cn

namespace Cn
namespace UT
open Kh454 (Settings)
abbrev fgW : List Nat := [102, 105, 103, 117, 114, 101]
abbrev tbW : List Nat := [116, 97, 98, 108, 101]
abbrev fmW : List Nat := [102, 111, 114, 109, 117, 108, 97]
abbrev ntW : List Nat := [110, 111, 116, 101]
abbrev skW : List Nat := [115, 107, 105, 112]
abbrev tkS (nd : D) (w : List Nat) (as is : List D) (p : Nat) : Sl := [some (.h 0), some (.d nd), some (.d (.str w)), some (.d (.lst as)), some (.d (.lst is)), some (.d (.int (p : Int))), none]
theorem e_meth1 {C : Calls} {σ : Sl} {m : Mu} {c f v k : Nat} {a : E} {w : W} (hv : σ[v]? = some (some (.h k))) (hc : clsR m (.h k) = some c) (ha : evE C σ m a = .ok w m) : evE C σ m (.meth c f (.var v) (.cons a .nil)) = C f [.h k, w] m := by
  simp only [evE, hv, Res.bind_ok, hc, evEs, ha]
  rw [if_pos trivial]
theorem e_meth2 {C : Calls} {σ : Sl} {m : Mu} {c f v k : Nat} {a b : E} {w x : W} (hv : σ[v]? = some (some (.h k))) (hc : clsR m (.h k) = some c) (ha : evE C σ m a = .ok w m) (hb : evE C σ m b = .ok x m) : evE C σ m (.meth c f (.var v) (.cons a (.cons b .nil))) = C f [.h k, w, x] m := by
  simp only [evE, hv, Res.bind_ok, hc, evEs, ha, hb]
  rw [if_pos trivial]
/-- a counted kind's rule -/
theorem counted (n : Nat) (s : Settings) (nd : D) (is : List D) (p : Nat) (a b : Kh450.Node) (w : List Nat) (set : Kh454.Settings → Kh454.Rule → Settings) (get : Settings → Kh454.Rule)
    (hw : ∀ m : Mu, cmpR m .eq (.d (.str w)) (.d (.str skW)) = .ok false m) (hc : ∀ m : Mu, cmpR m .in_ (.d (.str w)) (.kt t_COUNTED) = .ok true m)
    (h3 : ∀ r : Nat, stx [stO s] (.hi 0 3) (.d (.str w)) (.d (.int (r : Int))) = .ok () [stO (set s ⟨(get s).pattern, r⟩)])
    (h2 : ∀ (r : Nat) (q : Kh454.Pattern), stx [stO (set s ⟨(get s).pattern, r⟩)] (.hi 0 2) (.d (.str w)) (.d (patD q)) = .ok () [stO (set s ⟨q, r⟩)])
    (ha : sizeN a < 999999) :
    TkS (evS (run dfs (n + 5)) (tkS nd w [nodeD a, nodeD b] is p) [stO s] tkI) ((Kh454.ruleOf p [a, b]).map fun r => set s r) := by
  have c1 : evE (run dfs (n + 5)) (tkS nd w [nodeD a, nodeD b] is p) [stO s] (.cmp .eq (.var 2) (.str skW)) = .ok (.d (.bl false)) [stO s] := by
    have : evE (run dfs (n + 5)) (tkS nd w [nodeD a, nodeD b] is p) [stO s] (.str skW) = .ok (.d (.str skW)) [stO s] := by simp only [evE]
    rw [e_cmp (e_var (v := 2) rfl) this, hw, bl_ok]
  have c2 : evE (run dfs (n + 5)) (tkS nd w [nodeD a, nodeD b] is p) [stO s] (.cmp .in_ (.var 2) (.gt "COUNTED" (t_COUNTED))) = .ok (.d (.bl true)) [stO s] := by
    have : evE (run dfs (n + 5)) (tkS nd w [nodeD a, nodeD b] is p) [stO s] (.gt "COUNTED" (t_COUNTED)) = .ok (.kt t_COUNTED) [stO s] := by simp only [evE]
    rw [e_cmp (e_var (v := 2) rfl) this, hc, bl_ok]
  rw [s_if c1, if_neg (by decide), evSs_one, s_if c2, if_pos rfl, evSs_cons]
  have e0 : evE (run dfs (n + 5)) (tkS nd w [nodeD a, nodeD b] is p) [stO s] (.ix (.var 3) (.int 0)) = .ok (.d (nodeD a)) [stO s] := by rfl
  have g1 := e_call1 (f := i_pattern_at) e0
  rw [r_pattern_at (n + 1) _ a ha] at g1
  have er : Kh454.ruleOf p [a, b] = (Kh454.patternOf a).bind fun x => (Kh454.numberIn 0 6 b).map fun r => (⟨x, r⟩ : Kh454.Rule) := rfl
  rw [er]
  cases hp : Kh454.patternOf a with
  | error e =>
    rw [hp] at g1
    rw [s_asgX g1, SR.then_exc]
    exact ⟨_, _, rfl⟩
  | ok q =>
    rw [hp] at g1
    rw [s_asg g1, SR.then_next, evSs_cons]
    have hσ : (tkS nd w [nodeD a, nodeD b] is p).set 6 (some (.d (patD q))) = [some (.h 0), some (.d nd), some (.d (.str w)), some (.d (.lst [nodeD a, nodeD b])), some (.d (.lst is)), some (.d (.int (p : Int))), some (.d (patD q))] := rfl
    rw [hσ]
    have e1 : evE (run dfs (n + 5)) [some (.h 0), some (.d nd), some (.d (.str w)), some (.d (.lst [nodeD a, nodeD b])), some (.d (.lst is)), some (.d (.int (p : Int))), some (.d (patD q))] [stO s] (.ix (.var 3) (.int 1)) = .ok (.d (nodeD b)) [stO s] := by rfl
    have g2 := e_whole (n := n + 3) (lo := 0) (hi := 6) (li := 0) (ui := 6) (g := "MOST_LEVEL_settings") rfl rfl e1
    cases hn : Kh454.numberIn 0 6 b with
    | error e =>
      rw [hn] at g2
      rw [s_setxX g2, SR.then_exc]
      exact ⟨_, _, rfl⟩
    | ok r =>
      rw [hn] at g2
      rw [s_setx g2 (x := .hi 0 3) (by rfl) (e_var (v := 2) rfl) (h3 r), SR.then_next, evSs_one, s_setx (e_var (v := 6) rfl) (x := .hi 0 2) (by rfl) (e_var (v := 2) rfl) (h2 r q)]
      exact ⟨_, rfl⟩
theorem look_none {name : List Nat} (h1 : name ≠ hgW) (h2 : name ≠ stW) (h3 : name ≠ fgW) (h4 : name ≠ tbW) (h5 : name ≠ fmW) (h6 : name ≠ ntW) (h7 : name ≠ skW) : d_ARGUMENTS.lookup name = none := by
  unfold d_ARGUMENTS
  simp only [List.lookup, beq_eq_false_iff_ne.mpr h1, beq_eq_false_iff_ne.mpr h2, beq_eq_false_iff_ne.mpr h3, beq_eq_false_iff_ne.mpr h4, beq_eq_false_iff_ne.mpr h5, beq_eq_false_iff_ne.mpr h6, beq_eq_false_iff_ne.mpr h7]
theorem ts_eq (s : Settings) (p q : Nat) (name : List Nat) (as : List Kh450.Node) : Kh454.toSetting s (.list p (.symbol q name :: as)) =
    if (name == hgW) = true then (match as with
      | [level, pattern] => (Kh454.numberIn 1 6 level).bind fun l => (Kh454.patternOf pattern).map fun x => { s with headings := s.headings.set (l - 1) (if x.isEmpty then none else some x) }
      | _ => Kh450.fail 8 p)
    else if (name == stW) = true then (match as with
      | [level, number] => (Kh454.numberIn 1 6 level).bind fun l => (Kh454.numberIn 1 9999 number).map fun x => { s with starts := s.starts.set (l - 1) (x - 1) }
      | _ => Kh450.fail 8 p)
    else if (name == fgW) = true then (Kh454.ruleOf p as).map fun r => { s with figure := r }
    else if (name == tbW) = true then (Kh454.ruleOf p as).map fun r => { s with table := r }
    else if (name == fmW) = true then (Kh454.ruleOf p as).map fun r => { s with formula := r }
    else if (name == ntW) = true then (Kh454.ruleOf p as).map fun r => { s with note := r }
    else if (name == skW) = true then (match as with
      | [c] => (Kh450.labelOf c).map fun t => { s with skipped := s.skipped ++ [t] }
      | _ => Kh450.fail 8 p)
    else Kh450.fail 7 p := rfl
def isLstN : Kh450.Node → Bool
  | .list _ _ => true
  | _ => false
def isSymN : Kh450.Node → Bool
  | .symbol _ _ => true
  | _ => false
theorem isi_lst (m : Mu) (x : Kh450.Node) : isiR m .list (.d (valD x)) = .ok (isLstN x) m := by cases x <;> rfl
theorem isi_str (m : Mu) (x : Kh450.Node) : isiR m .str (.d (valD x)) = .ok (isSymN x) m := by cases x <;> rfl
theorem nodes_len (l : List Kh450.Node) : (nodesD l).length = l.length := by rw [nodesD_map, List.length_map]
theorem cut1 {α : Type} (x : α) (l : List α) : cutZ (x :: l) (some 1) none = l := by
  unfold cutZ clipZ
  simp
theorem unp45 {C : Calls} {m : Mu} {a b : D} {w : Option W} : evS C [w, some (.d (.tup [a, b])), none, none, none, none, none] m (.asgT [4, 5] (.var 1)) = .next [w, some (.d (.tup [a, b])), none, none, some (.d a), some (.d b), none] m := by rfl
theorem fail_ex {n : Nat} {σ : Sl} {m : Mu} {p k : Nat} : TkS (SR.exc ⟨0, [(k : Int), (p : Int)]⟩ σ m) (Kh450.fail k p) := ⟨σ, m, rfl⟩
theorem two_of {α : Type} {l : List α} (h : l.length = 2) : ∃ a b, l = [a, b] := by
  match l, h with
  | [a, b], _ => exact ⟨a, b, rfl⟩
theorem lvl_walk (n : Nat) (s : Settings) (nd : D) (is : List D) (p : Nat) (a b : Kh450.Node) (w : List Nat) {c : Kh450.Checked Settings}
    (hw : ∀ m : Mu, cmpR m .eq (.d (.str w)) (.d (.str skW)) = .ok false m) (hc : ∀ m : Mu, cmpR m .in_ (.d (.str w)) (.kt t_COUNTED) = .ok false m)
    (h : TkR (run dfs (n + 5) i_Settings_take_level [.h 0, .d (.str w), .d (.lst [nodeD a, nodeD b])] [stO s]) c) : TkS (evS (run dfs (n + 5)) (tkS nd w [nodeD a, nodeD b] is p) [stO s] tkI) c := by
  have c1 : evE (run dfs (n + 5)) (tkS nd w [nodeD a, nodeD b] is p) [stO s] (.cmp .eq (.var 2) (.str skW)) = .ok (.d (.bl false)) [stO s] := by
    have : evE (run dfs (n + 5)) (tkS nd w [nodeD a, nodeD b] is p) [stO s] (.str skW) = .ok (.d (.str skW)) [stO s] := by simp only [evE]
    rw [e_cmp (e_var (v := 2) rfl) this, hw, bl_ok]
  have c2 : evE (run dfs (n + 5)) (tkS nd w [nodeD a, nodeD b] is p) [stO s] (.cmp .in_ (.var 2) (.gt "COUNTED" (t_COUNTED))) = .ok (.d (.bl false)) [stO s] := by
    have : evE (run dfs (n + 5)) (tkS nd w [nodeD a, nodeD b] is p) [stO s] (.gt "COUNTED" (t_COUNTED)) = .ok (.kt t_COUNTED) [stO s] := by simp only [evE]
    rw [e_cmp (e_var (v := 2) rfl) this, hc, bl_ok]
  rw [s_if c1, if_neg (by decide), evSs_one, s_if c2, if_neg (by decide), evSs_one]
  refine tk_ex ?_
  rw [e_meth2 (k := 0) rfl rfl (e_var (v := 2) rfl) (e_var (v := 3) rfl)]
  exact h
theorem skip_walk (n : Nat) (s : Settings) (nd : D) (is : List D) (p : Nat) (a : Kh450.Node) (ha : sizeN a < 999999) (hk : s.skipped.length < 999999) : TkS (evS (run dfs (n + 5)) (tkS nd skW [nodeD a] is p) [stO s] tkI) ((Kh450.labelOf a).map fun t => { s with skipped := s.skipped ++ [t] }) := by
  have c1 : evE (run dfs (n + 5)) (tkS nd skW [nodeD a] is p) [stO s] (.cmp .eq (.var 2) (.str skW)) = .ok (.d (.bl true)) [stO s] := by
    have : evE (run dfs (n + 5)) (tkS nd skW [nodeD a] is p) [stO s] (.str skW) = .ok (.d (.str skW)) [stO s] := by simp only [evE]
    rw [e_cmp (e_var (v := 2) rfl) this]
    rfl
  rw [s_if c1, if_pos rfl, evSs_one]
  refine tk_ex ?_
  have e0 : evE (run dfs (n + 5)) (tkS nd skW [nodeD a] is p) [stO s] (.ix (.var 3) (.int 0)) = .ok (.d (nodeD a)) [stO s] := by rfl
  rw [e_meth1 (k := 0) rfl rfl e0]
  exact r_take_skip (n + 2) s a ha hk
theorem r_take (n : Nat) (s : Settings) (nd : Kh450.Node) (hs : SOk s) (hk : s.skipped.length < 999999) (hz : sizeN nd < 999999) : TkR (run dfs (n + 6) i_Settings_take [.h 0, .d (nodeD nd)] [stO s]) (Kh454.toSetting s nd) := by
  rw [run_body (d := f_Settings_take) (σ := [some (.h 0), some (.d (nodeD nd)), none, none, none, none, none]) (b := b_Settings_take) rfl rfl rfl rfl]
  refine tk_end rfl ?_
  unfold b_Settings_take
  rw [node_eq, evSs_cons, unp45, SR.then_next, evSs_cons]
  generalize hσ : ([some (.h 0), some (.d (.tup [valD nd, .int (nd.position : Int)])), none, none, some (.d (valD nd)), some (.d (.int (nd.position : Int))), none] : Sl) = σ
  have v4 : σ[4]? = some (some (.d (valD nd))) := by rw [← hσ]; rfl
  have v5 : σ[5]? = some (some (.d (.int (nd.position : Int)))) := by rw [← hσ]; rfl
  have c1 := e_isi (C := run dfs (n + 5)) (e_var v4) (isi_lst [stO s] nd)
  cases nd with
  | symbol p x =>
    have c2 := e_and c1 (b := .cmp .ne (.var 4) (.lst (.nil)))
    rw [if_neg (by simp [isLstN])] at c2
    rw [s_chk c2 (e_var v5), if_neg (by decide), SR.then_exc]
    exact fail_ex (n := 0)
  | integer p x =>
    have c2 := e_and c1 (b := .cmp .ne (.var 4) (.lst (.nil)))
    rw [if_neg (by simp [isLstN])] at c2
    rw [s_chk c2 (e_var v5), if_neg (by decide), SR.then_exc]
    exact fail_ex (n := 0)
  | string p x =>
    have c2 := e_and c1 (b := .cmp .ne (.var 4) (.lst (.nil)))
    rw [if_neg (by simp [isLstN])] at c2
    rw [s_chk c2 (e_var v5), if_neg (by decide), SR.then_exc]
    exact fail_ex (n := 0)
  | list p is =>
    have c2 := e_and c1 (b := .cmp .ne (.var 4) (.lst (.nil)))
    rw [isLstN, if_pos rfl] at c2
    have c3 : evE (run dfs (n + 5)) σ [stO s] (.cmp .ne (.var 4) (.lst (.nil))) = .ok (.d (.bl (!is.isEmpty))) [stO s] := by
      have e0 : evE (run dfs (n + 5)) σ [stO s] (.lst .nil) = .ok (.d (.lst [])) [stO s] := by simp [evE, evEs, allD, guardR]
      have pl : D.plain (valD (.list p is)) = true := nodes_plain is
      have h1 : cmpR [stO s] .ne (.d (valD (.list p is))) (.d (.lst [])) = notR (guardR (D.plain (valD (.list p is)) && true && decide (min (D.depth (valD (.list p is))) 1 ≤ 64)) (.ok (D.eqv (valD (.list p is)) (.lst [])) [stO s])) := rfl
      have h2 : D.eqv (valD (.list p is)) (.lst []) = is.isEmpty := by cases is <;> rfl
      rw [e_cmp (e_var v4) e0, h1, pl, h2, guardR_of (by simp; omega)]
      rfl
    rw [c3] at c2
    rw [s_chk c2 (e_var v5)]
    cases is with
    | nil =>
      rw [if_neg (by decide), SR.then_exc]
      exact fail_ex (n := 0)
    | cons x as =>
      rw [if_pos (by rfl), SR.then_next, evSs_cons]
      have w2 : evE (run dfs (n + 5)) σ [stO s] (.ix (.ix (.var 4) (.int 0)) (.int 0)) = .ok (.d (valD x)) [stO s] := by
        rw [evE, evE, e_var v4, Res.bind_ok, e_int, Res.bind_ok]
        have : ixR [stO s] (.d (valD (.list p (x :: as)))) (.d (.int 0)) = .ok (.d (nodeD x)) [stO s] := by
          have h0 : valD (.list p (x :: as)) = .lst (nodeD x :: nodesD as) := by rw [valD, nodesD]
          rw [h0]
          simp [ixR, atZ, ixZ]
        rw [this, Res.bind_ok, e_int, Res.bind_ok, node_eq]
        rfl
      rw [s_asg w2, SR.then_next, evSs_cons]
      have hσ2 : σ.set 2 (some (.d (valD x))) = [some (.h 0), some (.d (.tup [valD (.list p (x :: as)), .int (p : Int)])), some (.d (valD x)), none, some (.d (valD (.list p (x :: as)))), some (.d (.int (p : Int))), none] := by rw [← hσ]; rfl
      rw [hσ2]
      generalize hσ3 : ([some (.h 0), some (.d (.tup [valD (.list p (x :: as)), .int (p : Int)])), some (.d (valD x)), none, some (.d (valD (.list p (x :: as)))), some (.d (.int (p : Int))), none] : Sl) = σ2
      have u2 : σ2[2]? = some (some (.d (valD x))) := by rw [← hσ3]; rfl
      have u4 : σ2[4]? = some (some (.d (valD (.list p (x :: as))))) := by rw [← hσ3]; rfl
      have u5 : σ2[5]? = some (some (.d (.int (p : Int)))) := by rw [← hσ3]; rfl
      have d1 := e_and (e_isi (C := run dfs (n + 5)) (e_var u2) (isi_str [stO s] x)) (b := .ginS "ARGUMENTS" (d_ARGUMENTS) (.var 2))
      have notSym : isSymN x = false → Kh454.toSetting s (.list p (x :: as)) = Kh450.fail 7 p := by
        intro h; cases x <;> first | rfl | cases h
      cases hx : isSymN x with
      | false =>
        rw [hx, if_neg (by decide)] at d1
        rw [s_chk d1 (e_var u5), if_neg (by decide), SR.then_exc, notSym hx]
        exact fail_ex (n := 0)
      | true =>
        obtain ⟨q, name, rfl⟩ : ∃ q name, x = .symbol q name := by
          cases x <;> first | exact ⟨_, _, rfl⟩ | cases hx
        rw [hx, if_pos rfl] at d1
        have d2 : evE (run dfs (n + 5)) σ2 [stO s] (.ginS "ARGUMENTS" (d_ARGUMENTS) (.var 2)) = .ok (.d (.bl (d_ARGUMENTS.lookup name).isSome)) [stO s] := by
          rw [evE, e_var u2, Res.bind_ok]; rfl
        rw [d2] at d1
        rw [s_chk d1 (e_var u5)]
        have hal : as.length < 999999 := by
          have h0 := sizes_len as
          rw [sizeN, sizesN] at hz; omega
        -- the number of arguments
        have go : ∀ k : Nat, d_ARGUMENTS.lookup name = some (k : Int) → (as.length ≠ k → Kh454.toSetting s (.list p (.symbol q name :: as)) = Kh450.fail 8 p) →
            (as.length = k → TkS (evS (run dfs (n + 5)) (tkS (.tup [valD (.list p (.symbol q name :: as)), .int (p : Int)]) name (nodesD as) (nodesD (.symbol q name :: as)) p) [stO s] tkI) (Kh454.toSetting s (.list p (.symbol q name :: as)))) →
            TkS ((if (d_ARGUMENTS.lookup name).isSome = true then SR.next σ2 [stO s] else SR.exc ⟨0, [7, (p : Int)]⟩ σ2 [stO s]).then fun σ m => evSs (run dfs (n + 5)) σ m (.cons (.asg 3 (.slF (.var 4) (.int (1)))) (.cons (.ex (.call i_check_place (.cons (.cmp .eq (.b1 .len (.var 3)) (.ggetS "ARGUMENTS" (d_ARGUMENTS) (.var 2))) (.cons (.gi "BAD_ARGUMENTS" (8)) (.cons (.var 5) (.nil)))))) (.cons tkI .nil)))) (Kh454.toSetting s (.list p (.symbol q name :: as))) := by
          intro k hlk hbad hgood
          rw [hlk, if_pos (show (some (k : Int)).isSome = true from rfl), SR.then_next, evSs_cons]
          have s3 : evE (run dfs (n + 5)) σ2 [stO s] (.slF (.var 4) (.int 1)) = .ok (.d (.lst (nodesD as))) [stO s] := by
            rw [evE, e_var u4, Res.bind_ok, e_int, Res.bind_ok]
            show Res.ok (W.d (.lst (cutZ (nodesD (.symbol q name :: as)) (some 1) none))) [stO s] = _
            rw [nodesD, cut1]
          rw [s_asg s3, SR.then_next, evSs_cons]
          have hσ4 : σ2.set 3 (some (.d (.lst (nodesD as)))) = tkS (.tup [valD (.list p (.symbol q name :: as)), .int (p : Int)]) name (nodesD as) (nodesD (.symbol q name :: as)) p := by rw [← hσ3]; rfl
          rw [hσ4]
          have l1 : evE (run dfs (n + 5)) (tkS (.tup [valD (.list p (.symbol q name :: as)), .int (p : Int)]) name (nodesD as) (nodesD (.symbol q name :: as)) p) [stO s] (.b1 .len (.var 3)) = .ok (.d (.int (as.length : Int))) [stO s] := by
            rw [ev_b1, e_var (v := 3) rfl, Res.bind_ok]
            simp [b1R, items, rd, guardR, nodes_len]
            unfold line; omega
          have l2 : evE (run dfs (n + 5)) (tkS (.tup [valD (.list p (.symbol q name :: as)), .int (p : Int)]) name (nodesD as) (nodesD (.symbol q name :: as)) p) [stO s] (.ggetS "ARGUMENTS" (d_ARGUMENTS) (.var 2)) = .ok (.d (.int (k : Int))) [stO s] := by
            rw [evE, e_var (v := 2) rfl, Res.bind_ok]
            show (match d_ARGUMENTS.lookup name with | some j => Res.ok (W.d (.int j)) [stO s] | none => .stuck) = _
            rw [hlk]
          have l3 : evE (run dfs (n + 5)) (tkS (.tup [valD (.list p (.symbol q name :: as)), .int (p : Int)]) name (nodesD as) (nodesD (.symbol q name :: as)) p) [stO s] (.cmp .eq (.b1 .len (.var 3)) (.ggetS "ARGUMENTS" (d_ARGUMENTS) (.var 2))) = .ok (.d (.bl (decide ((as.length : Int) = (k : Int))))) [stO s] := by
            rw [e_cmp l1 l2, cmp_eq, bl_ok]
          rw [s_chk l3 (e_var (v := 5) rfl)]
          by_cases hl : as.length = k
          · rw [if_pos (by simp; omega), SR.then_next, evSs_one]
            exact hgood hl
          · rw [if_neg (by simp; omega), SR.then_exc, hbad hl]
            exact fail_ex (n := 0)
        by_cases g_heading : name = hgW
        · subst g_heading
          refine go 2 rfl ?_ ?_
          · intro h
            rw [ts_eq]
            match as, h with
            | [], _ => rfl
            | [a], _ => rfl
            | [a, b], h => exact absurd rfl h
            | a :: b :: c :: r, _ => rfl
          · intro h
            obtain ⟨a, b, rfl⟩ := two_of h
            have hb : sizeN b < 999999 := by rw [sizeN, sizesN, sizesN, sizesN] at hz; omega
            refine lvl_walk n s _ _ p a b hgW (fun _ => rfl) (fun _ => rfl) ?_
            exact r_level_h n s a b hs.hl hb
        by_cases g_start : name = stW
        · subst g_start
          refine go 2 rfl ?_ ?_
          · intro h
            rw [ts_eq]
            match as, h with
            | [], _ => rfl
            | [a], _ => rfl
            | [a, b], h => exact absurd rfl h
            | a :: b :: c :: r, _ => rfl
          · intro h
            obtain ⟨a, b, rfl⟩ := two_of h
            have hb : sizeN b < 999999 := by rw [sizeN, sizesN, sizesN, sizesN] at hz; omega
            refine lvl_walk n s _ _ p a b stW (fun _ => rfl) (fun _ => rfl) ?_
            exact r_level_s n s a b hs.sl
        by_cases g_figure : name = fgW
        · subst g_figure
          refine go 2 rfl ?_ ?_
          · intro h
            rw [ts_eq]
            match as, h with
            | [], _ => rfl
            | [a], _ => rfl
            | [a, b], h => exact absurd rfl h
            | a :: b :: c :: r, _ => rfl
          · intro h
            obtain ⟨a, b, rfl⟩ := two_of h
            have ha : sizeN a < 999999 := by rw [sizeN, sizesN, sizesN] at hz; omega
            exact counted n s _ _ p a b fgW (fun s r => { s with figure := r }) (fun s => s.figure) (fun _ => rfl) (fun _ => rfl) (fun _ => rfl) (fun _ _ => rfl) ha
        by_cases g_table : name = tbW
        · subst g_table
          refine go 2 rfl ?_ ?_
          · intro h
            rw [ts_eq]
            match as, h with
            | [], _ => rfl
            | [a], _ => rfl
            | [a, b], h => exact absurd rfl h
            | a :: b :: c :: r, _ => rfl
          · intro h
            obtain ⟨a, b, rfl⟩ := two_of h
            have ha : sizeN a < 999999 := by rw [sizeN, sizesN, sizesN] at hz; omega
            exact counted n s _ _ p a b tbW (fun s r => { s with table := r }) (fun s => s.table) (fun _ => rfl) (fun _ => rfl) (fun _ => rfl) (fun _ _ => rfl) ha
        by_cases g_formula : name = fmW
        · subst g_formula
          refine go 2 rfl ?_ ?_
          · intro h
            rw [ts_eq]
            match as, h with
            | [], _ => rfl
            | [a], _ => rfl
            | [a, b], h => exact absurd rfl h
            | a :: b :: c :: r, _ => rfl
          · intro h
            obtain ⟨a, b, rfl⟩ := two_of h
            have ha : sizeN a < 999999 := by rw [sizeN, sizesN, sizesN] at hz; omega
            exact counted n s _ _ p a b fmW (fun s r => { s with formula := r }) (fun s => s.formula) (fun _ => rfl) (fun _ => rfl) (fun _ => rfl) (fun _ _ => rfl) ha
        by_cases g_note : name = ntW
        · subst g_note
          refine go 2 rfl ?_ ?_
          · intro h
            rw [ts_eq]
            match as, h with
            | [], _ => rfl
            | [a], _ => rfl
            | [a, b], h => exact absurd rfl h
            | a :: b :: c :: r, _ => rfl
          · intro h
            obtain ⟨a, b, rfl⟩ := two_of h
            have ha : sizeN a < 999999 := by rw [sizeN, sizesN, sizesN] at hz; omega
            exact counted n s _ _ p a b ntW (fun s r => { s with note := r }) (fun s => s.note) (fun _ => rfl) (fun _ => rfl) (fun _ => rfl) (fun _ _ => rfl) ha
        by_cases g_skip : name = skW
        · subst g_skip
          refine go 1 rfl ?_ ?_
          · intro h
            rw [ts_eq]
            match as, h with
            | [], _ => rfl
            | [a], h => exact absurd rfl h
            | a :: b :: r, _ => rfl
          · intro h
            obtain ⟨a, rfl⟩ : ∃ a, as = [a] := by
              match as, h with
              | [a], _ => exact ⟨a, rfl⟩
            have ha : sizeN a < 999999 := by rw [sizeN, sizesN, sizesN] at hz; omega
            exact skip_walk n s _ _ p a ha hk
        rw [look_none g_heading g_start g_figure g_table g_formula g_note g_skip, if_neg (show ¬ (none : Option Int).isSome = true by decide), SR.then_exc, ts_eq, if_neg (show ¬ (name == hgW) = true by simpa using g_heading), if_neg (show ¬ (name == stW) = true by simpa using g_start), if_neg (show ¬ (name == fgW) = true by simpa using g_figure), if_neg (show ¬ (name == tbW) = true by simpa using g_table), if_neg (show ¬ (name == fmW) = true by simpa using g_formula), if_neg (show ¬ (name == ntW) = true by simpa using g_note), if_neg (show ¬ (name == skW) = true by simpa using g_skip)]
        exact fail_ex (n := 0)
end UT
end Cn

namespace Cn
namespace UT
open Kh454 (Settings)
theorem pat_parse {t : List Nat} {p : Kh454.Pattern} (h : Kh454.parsePattern t = some p) (ht : t.length < 999999) : PatOk p ∧ (∀ q ∈ p, okPart q) := by
  obtain ⟨h1, h2⟩ := ppl_ok _ _ _ h
  refine ⟨⟨by omega, fun q hq => ?_⟩, h1⟩
  have := h1 q hq
  cases q with
  | text u => obtain ⟨c, rfl⟩ := this; simp
  | level s n => exact this
  | counter s => trivial
theorem pat_of {x : Kh450.Node} {p : Kh454.Pattern} (h : Kh454.patternOf x = .ok p) (hx : sizeN x < 999999) : PatOk p ∧ (∀ q ∈ p, okPart q) := by
  unfold Kh454.patternOf at h
  cases ht : Kh450.stringOf x with
  | error e => rw [ht] at h; cases h
  | ok t =>
    obtain ⟨pl, rfl⟩ := str_of ht
    rw [ht] at h
    have htl : t.length < 999999 := by rw [sizeN] at hx; omega
    change (match Kh454.parsePattern t with
      | some p => .ok p
      | none => Kh450.fail 9 pl) = Except.ok p at h
    cases hp : Kh454.parsePattern t with
    | none => rw [hp] at h; cases h
    | some q =>
      rw [hp] at h
      cases h
      exact pat_parse hp htl
theorem rule_of {p : Nat} {as : List Kh450.Node} {r : Kh454.Rule} (h : Kh454.ruleOf p as = .ok r) (hz : sizesN as < 999999) : PatOk r.pattern ∧ r.restart ≤ 6 := by
  match as, h with
  | [], h => cases h
  | [a], h => cases h
  | a :: b :: c :: r, h => cases h
  | [a, b], h =>
    have e : Kh454.ruleOf p [a, b] = (Kh454.patternOf a).bind fun x => (Kh454.numberIn 0 6 b).map fun r => (⟨x, r⟩ : Kh454.Rule) := rfl
    rw [e] at h
    cases ha : Kh454.patternOf a with
    | error e => rw [ha] at h; cases h
    | ok q =>
      rw [ha] at h
      change ((Kh454.numberIn 0 6 b).map fun r => (⟨q, r⟩ : Kh454.Rule)) = .ok r at h
      cases hb : Kh454.numberIn 0 6 b with
      | error e => rw [hb] at h; cases h
      | ok k =>
        rw [hb] at h
        cases h
        exact ⟨(pat_of ha (by rw [sizesN] at hz; omega)).1, (num_in hb).2⟩
theorem mem_set {α : Type} : ∀ {l : List α} {i : Nat} {x y : α}, y ∈ l.set i x → y = x ∨ y ∈ l
  | [], i, x, y, h => by simp at h
  | a :: l, 0, x, y, h => by
    simp only [List.set_cons_zero, List.mem_cons] at h ⊢
    rcases h with h | h
    · exact .inl h
    · exact .inr (.inr h)
  | a :: l, i + 1, x, y, h => by
    simp only [List.set_cons_succ, List.mem_cons] at h ⊢
    rcases h with h | h
    · exact .inr (.inl h)
    · rcases mem_set h with h | h
      · exact .inl h
      · exact .inr (.inr h)
theorem sok_set {s s' : Settings} {nd : Kh450.Node} (hs : SOk s) (hz : sizeN nd < 999999) (h : Kh454.toSetting s nd = .ok s') : SOk s' ∧ s'.skipped.length ≤ s.skipped.length + 1 := by
  have rul : ∀ {p : Nat} {as : List Kh450.Node} {g : Kh454.Rule → Settings}, sizesN as < 999999 → (Kh454.ruleOf p as).map g = .ok s' → (∀ r : Kh454.Rule, PatOk r.pattern ∧ r.restart ≤ 6 → SOk (g r) ∧ (g r).skipped.length ≤ s.skipped.length + 1) → SOk s' ∧ s'.skipped.length ≤ s.skipped.length + 1 := by
    intro p as g hz h hg
    cases hr : Kh454.ruleOf p as with
    | error e => rw [hr] at h; cases h
    | ok r =>
      rw [hr] at h
      cases h
      exact hg r (rule_of hr hz)
  cases nd with
  | symbol p x => cases h
  | integer p x => cases h
  | string p x => cases h
  | list p is =>
    cases is with
    | nil => cases h
    | cons x as =>
      cases x with
      | integer p x => cases h
      | string p x => cases h
      | list p x => cases h
      | symbol q name =>
        have hza : sizesN as < 999999 := by rw [sizeN, sizesN] at hz; omega
        rw [ts_eq] at h
        split at h
        · match as, h with
          | [], h => cases h
          | [a], h => cases h
          | a :: b :: c :: r, h => cases h
          | [a, b], h =>
            dsimp only at h
            cases hn : Kh454.numberIn 1 6 a with
            | error e => rw [hn] at h; cases h
            | ok l =>
              rw [hn] at h
              change ((Kh454.patternOf b).map fun x => ({ s with headings := s.headings.set (l - 1) (if x.isEmpty then none else some x) } : Settings)) = .ok s' at h
              cases hp : Kh454.patternOf b with
              | error e => rw [hp] at h; cases h
              | ok p =>
                rw [hp] at h
                cases h
                obtain ⟨p1, p2⟩ := pat_of hp (by rw [sizesN, sizesN] at hza; omega)
                refine ⟨{ hs with hl := by simp [hs.hl], hn := fun u hu => ?_ }, Nat.le_succ _⟩
                rcases mem_set hu with e | hu
                · cases p with
                  | nil => cases e
                  | cons a p =>
                    cases e
                    refine ⟨p1, ?_⟩
                    rw [parts_map p2]; simp
                · exact hs.hn u hu
        split at h
        · match as, h with
          | [], h => cases h
          | [a], h => cases h
          | a :: b :: c :: r, h => cases h
          | [a, b], h =>
            dsimp only at h
            cases hn : Kh454.numberIn 1 6 a with
            | error e => rw [hn] at h; cases h
            | ok l =>
              rw [hn] at h
              change ((Kh454.numberIn 1 9999 b).map fun x => ({ s with starts := s.starts.set (l - 1) (x - 1) } : Settings)) = .ok s' at h
              cases hp : Kh454.numberIn 1 9999 b with
              | error e => rw [hp] at h; cases h
              | ok p =>
                rw [hp] at h
                cases h
                have := num_in hp
                refine ⟨{ hs with sl := by simp [hs.sl], sn := fun u hu => ?_ }, Nat.le_succ _⟩
                rcases mem_set hu with e | hu
                · omega
                · exact hs.sn u hu
        split at h
        · exact rul hza h fun r hr => ⟨{ hs with f := hr }, Nat.le_succ _⟩
        split at h
        · exact rul hza h fun r hr => ⟨{ hs with t := hr }, Nat.le_succ _⟩
        split at h
        · exact rul hza h fun r hr => ⟨{ hs with e := hr }, Nat.le_succ _⟩
        split at h
        · exact rul hza h fun r hr => ⟨{ hs with n := hr }, Nat.le_succ _⟩
        split at h
        · match as, h with
          | [], h => cases h
          | a :: b :: r, h => cases h
          | [a], h =>
            dsimp only at h
            cases ht : Kh450.stringOf a with
            | error e => rw [Kh450.labelOf, ht] at h; cases h
            | ok t =>
              rw [Kh450.labelOf, ht] at h
              obtain ⟨pl, rfl⟩ := str_of ht
              change (Except.map _ (if Kh450.isLabel t = true then .ok t else Kh450.fail 9 pl)) = _ at h
              split at h
              · cases h
                refine ⟨{ hs with k := fun u hu => ?_ }, by simp⟩
                rcases List.mem_append.mp hu with hu | hu
                · exact hs.k u hu
                · rw [List.mem_singleton] at hu
                  subst hu
                  rw [sizesN, sizeN] at hza; omega
              · cases h
        · cases h
def patB (p : Kh454.Pattern) : Bool := decide (p.length < 999999) && p.all fun q => match q with
  | .text t => decide (t.length ≤ 7)
  | .level _ n => decide (1 ≤ n) && decide (n ≤ 6)
  | .counter _ => true
theorem patB_ok {p : Kh454.Pattern} (h : patB p = true) : PatOk p := by
  unfold patB at h
  rw [Bool.and_eq_true, decide_eq_true_eq, List.all_eq_true] at h
  refine ⟨h.1, fun q hq => ?_⟩
  have := h.2 q hq
  cases q with
  | text t => simpa using this
  | level s n => simpa using this
  | counter s => trivial
theorem sok_default : SOk Kh454.defaultSettings := by
  refine ⟨rfl, rfl, ?_, ?_, ⟨patB_ok rfl, Nat.zero_le _⟩, ⟨patB_ok rfl, Nat.zero_le _⟩, ⟨patB_ok rfl, Nat.zero_le _⟩, ⟨patB_ok rfl, Nat.zero_le _⟩, ?_⟩
  · intro p hp
    have e : Kh454.defaultSettings.headings = [some (Kh454.defaultHeading 1), some (Kh454.defaultHeading 2), some (Kh454.defaultHeading 3), some (Kh454.defaultHeading 4), some (Kh454.defaultHeading 5), some (Kh454.defaultHeading 6)] := rfl
    rw [e] at hp
    simp only [List.mem_cons, Option.some.injEq, List.not_mem_nil, or_false] at hp
    rcases hp with rfl | rfl | rfl | rfl | rfl | rfl <;> exact ⟨patB_ok rfl, fun h => by cases h⟩
  · intro x hx
    have e : Kh454.defaultSettings.starts = [0, 0, 0, 0, 0, 0] := rfl
    rw [e] at hx
    simp at hx
    omega
  · intro t ht
    cases ht
def stD (s : Settings) : D := .ins 1 [(hdF s).data, (fnF s).data, (ptF s).data, (rsF s).data, (skF s).data]
theorem fz_st (s : Settings) : fzR [stO s] (.h 0) = .ok (stD s) [none] := by rfl
abbrev rsB : Ss := .cons (.ex (.meth 1 i_Settings_take (.var 1) (.cons (.var 2) (.nil)))) (.nil)
theorem rs_loop (n : Nat) (row : D) : ∀ (nds : List Kh450.Node) (s : Settings) (x2 : Option W), SOk s → s.skipped.length + nds.length < 999999 → sizesN nds < 999999 →
    match Kh454.toSettings nds s with
    | .ok s' => SOk s' ∧ ∃ x2', forGo (.n 2) (fun σ m => evSs (run dfs (n + 6)) σ m rsB) ((nds.map nodeD).map W.d) [some (.d row), some (.h 0), x2] [stO s] = .next [some (.d row), some (.h 0), x2'] [stO s']
    | .error e => ∃ σ m, forGo (.n 2) (fun σ m => evSs (run dfs (n + 6)) σ m rsB) ((nds.map nodeD).map W.d) [some (.d row), some (.h 0), x2] [stO s] = .exc ⟨0, [(e.1 : Int), (e.2 : Int)]⟩ σ m
  | [], s, x2, hs, hk, hz => ⟨hs, x2, rfl⟩
  | nd :: nds, s, x2, hs, hk, hz => by
    rw [sizesN] at hz
    simp only [List.length_cons] at hk
    have h := r_take n s nd hs (by omega) (by omega)
    have e : Kh454.toSettings (nd :: nds) s = (Kh454.toSetting s nd).bind (Kh454.toSettings nds) := rfl
    have go : forGo (.n 2) (fun σ m => evSs (run dfs (n + 6)) σ m rsB) (((nd :: nds).map nodeD).map W.d) [some (.d row), some (.h 0), x2] [stO s] = (evSs (run dfs (n + 6)) [some (.d row), some (.h 0), some (.d (nodeD nd))] [stO s] rsB).then fun σ2 m2 => forGo (.n 2) (fun σ m => evSs (run dfs (n + 6)) σ m rsB) ((nds.map nodeD).map W.d) σ2 m2 := rfl
    have em : evE (run dfs (n + 6)) [some (.d row), some (.h 0), some (.d (nodeD nd))] [stO s] (.meth 1 i_Settings_take (.var 1) (.cons (.var 2) (.nil))) = run dfs (n + 6) i_Settings_take [.h 0, .d (nodeD nd)] [stO s] := e_meth1 (k := 0) rfl rfl (e_var (v := 2) rfl)
    rw [e, go, evSs_one]
    cases ht : Kh454.toSetting s nd with
    | error e =>
      rw [ht] at h
      obtain ⟨m, h⟩ := h
      rw [s_exX (em.trans h), SR.then_exc]
      exact ⟨_, _, rfl⟩
    | ok s' =>
      rw [ht] at h
      obtain ⟨h1, h2⟩ := sok_set hs (by omega) ht
      rw [s_ex (em.trans h), SR.then_next]
      exact rs_loop n row nds s' _ h1 (by omega) (by omega)
theorem r_read_settings (n : Nat) (row : List Nat) (hrow : row.length < 999999) : match Kh454.parseSettings row with
    | .ok s => SOk s ∧ run dfs (n + 8) i_read_settings [.d (.lst (nD row))] [] = .ok (.d (stD s)) []
    | .error e => run dfs (n + 8) i_read_settings [.d (.lst (nD row))] [] = .exc ⟨0, [(e.1 : Int), (e.2 : Int)]⟩ [] := by
  rw [run_body (d := f_read_settings) (σ := [some (.d (.lst (nD row))), none, none]) (b := b_read_settings) rfl rfl rfl rfl]
  unfold b_read_settings
  have a1 : evE (run dfs (n + 7)) [some (.d (.lst (nD row))), none, none] [] (.new 1 i_Settings___init__ .nil) = .ok (.h 0) [stO Kh454.defaultSettings] := by
    rw [evE, evEs, Res.bind_ok]
    have := r_Settings_init (n + 3)
    show (run dfs (n + 7) i_Settings___init__ [.h 0] [some ⟨.ins 1 [], []⟩]).bind _ = _
    rw [this]; rfl
  have hσ : ([some (.d (.lst (nD row))), none, none] : Sl).set 1 (some (.h 0)) = [some (.d (.lst (nD row))), some (.h 0), none] := rfl
  have hr := r_read_expressions n [stO Kh454.defaultSettings] row hrow
  have hc := e_call1 (C := run dfs (n + 7)) (σ := [some (.d (.lst (nD row))), some (.h 0), none]) (m := [stO Kh454.defaultSettings]) (f := i_read_expressions) (e_var (v := 0) rfl)
  rw [evSs_cons, s_asg' a1, SR.then_next, evSs_cons, hσ]
  unfold Kh454.parseSettings
  cases hz : Kh450.readAll row with
  | error kd rest =>
    rw [hz] at hr
    obtain ⟨m', hr⟩ := hr
    have hf : evS (run dfs (n + 7)) [some (.d (.lst (nD row))), some (.h 0), none] [stO Kh454.defaultSettings] (.for_ (.n 2) (.seq (.call i_read_expressions (.cons (.var 0) (.nil)))) rsB) = .exc ⟨0, [(kd : Int), ((row.length - rest.length : Nat) : Int)]⟩ [some (.d (.lst (nD row))), some (.h 0), none] m' := by
      rw [evS, evIt, hc, hr]; rfl
    rw [hf, SR.then_exc]
    rfl
  | ok nds rest =>
    rw [hz] at hr
    dsimp only at hr ⊢
    have hsz := read_size hz
    have hll := sizes_len nds
    have lp := rs_loop (n + 1) (.lst (nD row)) nds Kh454.defaultSettings none sok_default (by show 0 + nds.length < 999999; omega) (by omega)
    have hf : evS (run dfs (n + 7)) [some (.d (.lst (nD row))), some (.h 0), none] [stO Kh454.defaultSettings] (.for_ (.n 2) (.seq (.call i_read_expressions (.cons (.var 0) (.nil)))) rsB) = forGo (.n 2) (fun σ m => evSs (run dfs (n + 7)) σ m rsB) ((nds.map nodeD).map W.d) [some (.d (.lst (nD row))), some (.h 0), none] [stO Kh454.defaultSettings] := by
      rw [evS, evIt, hc, hr]; rfl
    rw [hf]
    cases hs : Kh454.toSettings nds Kh454.defaultSettings with
    | error e =>
      rw [hs] at lp
      obtain ⟨σ, m, lp⟩ := lp
      rw [lp, SR.then_exc]
      rfl
    | ok s =>
      rw [hs] at lp
      obtain ⟨h1, x2, lp⟩ := lp
      refine ⟨h1, ?_⟩
      have hz2 : evE (run dfs (n + 7)) [some (.d (.lst (nD row))), some (.h 0), x2] [stO s] (.fz (.var 1)) = .ok (.d (stD s)) [none] := by
        rw [evE, e_var (v := 1) rfl, Res.bind_ok, fz_st]; rfl
      rw [lp, SR.then_next, evSs_one, s_ret hz2]
      rfl
/-- what `check` answers -/
def checkL (row : List Nat) : List Int := match Kh454.parseSettings row with
  | .ok _ => [0, 0]
  | .error e => [(e.1 : Int), (e.2 : Int)]
theorem r_check_ (n : Nat) (row : List Nat) (hrow : row.length < 999999) : run dfs (n + 9) i_check [.d (.lst (nD row))] [] = .ok (.d (.lst ((checkL row).map D.int))) [] := by
  rw [run_body (d := f_check) (σ := [some (.d (.lst (nD row))), none]) (b := b_check) rfl rfl rfl rfl]
  unfold b_check checkL
  have h := r_read_settings n row hrow
  have hc := e_call1 (C := run dfs (n + 8)) (σ := [some (.d (.lst (nD row))), none]) (m := []) (f := i_read_settings) (e_var (v := 0) rfl)
  rw [evSs_cons, evS, evSs_one]
  cases hz : Kh454.parseSettings row with
  | ok s =>
    rw [hz] at h
    rw [h.2] at hc
    rw [s_ex hc]
    rfl
  | error e =>
    rw [hz] at h
    rw [h] at hc
    rw [s_exX hc]
    rfl
end UT
end Cn

namespace Cn
namespace S01
open PySem PySem.Spec PyProof.Rows L2
open UT
def tb : Tb where
  dn := [some ("check_place" : Str), some ("codes" : Str), some ("is_point" : Str), some ("length_by" : Str), some ("sequence_at" : Str), some ("is_label_sign" : Str), some ("is_label" : Str), some ("number_piece" : Str), some ("pieces_of" : Str), some ("is_figure" : Str), some ("is_small" : Str), some ("hex_worth" : Str), some ("read_value" : Str), some ("read_expressions" : Str), some ("plain_pieces" : Str), some ("default_counted" : Str), some ("default_heading" : Str), some ("whole_at" : Str), some ("text_at" : Str), some ("pattern_at" : Str), some ("read_settings" : Str), some ("check" : Str), none, none, none, none, none, none, none, none, none, none, none, none, none, none]
  nums := [("MOST_LABEL", 40), ("PERCENT", 37), ("COUNTER", 99), ("LITERAL", -1), ("ARABIC", 0), ("MOST_LEVEL_texts", 6), ("TOO_EARLY", 1), ("UNEXPECTED", 2), ("BAD_ESCAPE", 3), ("BAD_UTF", 4), ("BAD_INTEGER", 5), ("TOO_DEEP", 6), ("MOST_DEEP", 16), ("MOST_DIGITS", 6), ("MOST_HEX", 6), ("LEFT", 40), ("RIGHT", 41), ("QUOTE", 34), ("BACKSLASH", 92), ("REMARK", 59), ("LINE_END", 10), ("HYPHEN", 45), ("LETTER_U", 117), ("LEFT_BRACE", 123), ("RIGHT_BRACE", 125), ("NO_SETTING", 7), ("BAD_ARGUMENTS", 8), ("OUT_OF_RANGE", 9), ("MOST_LEVEL_settings", 6), ("MOST_START", 9999), ("POINT", 46)]
  tups := [("BLANKS", t_BLANKS), ("LABEL_SIGNS", t_LABEL_SIGNS), ("COUNTED", t_COUNTED), ("DEFAULTS", t_DEFAULTS)]
  dics := [("SHAPES", d_SHAPES), ("ESCAPES", d_ESCAPES)]
  md := [true, true, true, true, true, true, true, true, true, true, true, true, true, true, true, true, true, true, true, true, true, false, true, true, true, true, true, true, true, true, true, true, true, true, true, true]
  free := ["len", "ord", "tuple", "any", "all", "str", "int", "max", "divmod", "range", "ValueError", "list", "dict", "isinstance", "enumerate", "zip"]
  xn := ["Fault", "NoPattern"]
  xf := [["kind", "place"], []]
  txts := [("SMALL", [97, 98, 99, 100, 101, 102, 103, 104, 105, 106, 107, 108, 109, 110, 111, 112, 113, 114, 115, 116, 117, 118, 119, 120, 121, 122]), ("FIGURES", [48, 49, 50, 51, 52, 53, 54, 55, 56, 57, 97, 98, 99, 100, 101, 102])]
  dicS := [("ARGUMENTS", d_ARGUMENTS)]
  cn := [some ("Source" : Str), some ("Settings" : Str), none, none]
  cf := [["row", "at"], ["headings", "first_numbers", "patterns", "restarts", "skipped"], ["many"], ["settings", "present", "counters", "notes", "by_place", "by_note", "entries"]]
  mt := [none, none, none, none, none, none, none, none, none, none, none, none, none, none, none, none, none, none, none, none, none, none, some (0, ("__init__" : Str)), some (0, ("is_over" : Str)), some (0, ("pass_remark" : Str)), some (0, ("integer" : Str)), some (0, ("symbol" : Str)), some (0, ("string" : Str)), some (0, ("character" : Str)), some (0, ("escape" : Str)), some (0, ("stands" : Str)), some (0, ("hexadecimal" : Str)), some (1, ("__init__" : Str)), some (1, ("take" : Str)), some (1, ("take_skip" : Str)), some (1, ("take_level" : Str))]
def top (i : Nat) : Stmt := PySem.Challenge.pw_crossnumbers_s01_check.main.body.getD i (.Pass ⟨0, 0, 0, 0⟩)
abbrev s_check_place : Stmt := top 4
def x_check_place : Dx := ⟨"check_place", "check_place", defArgs s_check_place, defBody s_check_place, defScope s_check_place, ["truth", "kind", "place"], ["truth", "kind", "place"]⟩
def h_check_place : He.DefD := ⟨("check_place", none), "check_place", "check_place", defArgs s_check_place, defBody s_check_place, defScope s_check_place, [], []⟩
abbrev s_codes : Stmt := top 15
def x_codes : Dx := ⟨"codes", "codes", defArgs s_codes, defBody s_codes, defScope s_codes, ["word", "sign"], ["word"]⟩
def h_codes : He.DefD := ⟨("codes", none), "codes", "codes", defArgs s_codes, defBody s_codes, defScope s_codes, [], []⟩
abbrev s_is_point : Stmt := top 16
def x_is_point : Dx := ⟨"is_point", "is_point", defArgs s_is_point, defBody s_is_point, defScope s_is_point, ["number"], ["number"]⟩
def h_is_point : He.DefD := ⟨("is_point", none), "is_point", "is_point", defArgs s_is_point, defBody s_is_point, defScope s_is_point, [], []⟩
abbrev s_length_by : Stmt := top 17
def x_length_by : Dx := ⟨"length_by", "length_by", defArgs s_length_by, defBody s_length_by, defScope s_length_by, ["byte"], ["byte"]⟩
def h_length_by : He.DefD := ⟨("length_by", none), "length_by", "length_by", defArgs s_length_by, defBody s_length_by, defScope s_length_by, [], []⟩
abbrev s_sequence_at : Stmt := top 18
def x_sequence_at : Dx := ⟨"sequence_at", "sequence_at", defArgs s_sequence_at, defBody s_sequence_at, defScope s_sequence_at, ["row", "at", "many", "found", "byte"], ["row", "at"]⟩
def h_sequence_at : He.DefD := ⟨("sequence_at", none), "sequence_at", "sequence_at", defArgs s_sequence_at, defBody s_sequence_at, defScope s_sequence_at, [], []⟩
abbrev s_is_label_sign : Stmt := top 19
def x_is_label_sign : Dx := ⟨"is_label_sign", "is_label_sign", defArgs s_is_label_sign, defBody s_is_label_sign, defScope s_is_label_sign, ["point"], ["point"]⟩
def h_is_label_sign : He.DefD := ⟨("is_label_sign", none), "is_label_sign", "is_label_sign", defArgs s_is_label_sign, defBody s_is_label_sign, defScope s_is_label_sign, [], []⟩
abbrev s_is_label : Stmt := top 20
def x_is_label : Dx := ⟨"is_label", "is_label", defArgs s_is_label, defBody s_is_label, defScope s_is_label, ["text", "point"], ["text"]⟩
def h_is_label : He.DefD := ⟨("is_label", none), "is_label", "is_label", defArgs s_is_label, defBody s_is_label, defScope s_is_label, [], []⟩
abbrev s_number_piece : Stmt := top 21
def x_number_piece : Dx := ⟨"number_piece", "number_piece", defArgs s_number_piece, defBody s_number_piece, defScope s_number_piece, ["text", "at", "shape"], ["text", "at"]⟩
def h_number_piece : He.DefD := ⟨("number_piece", none), "number_piece", "number_piece", defArgs s_number_piece, defBody s_number_piece, defScope s_number_piece, [], []⟩
abbrev s_pieces_of : Stmt := top 22
def x_pieces_of : Dx := ⟨"pieces_of", "pieces_of", defArgs s_pieces_of, defBody s_pieces_of, defScope s_pieces_of, ["text", "found", "at", "piece"], ["text"]⟩
def h_pieces_of : He.DefD := ⟨("pieces_of", none), "pieces_of", "pieces_of", defArgs s_pieces_of, defBody s_pieces_of, defScope s_pieces_of, [], []⟩
abbrev s_is_figure : Stmt := top 46
def x_is_figure : Dx := ⟨"is_figure", "is_figure", defArgs s_is_figure, defBody s_is_figure, defScope s_is_figure, ["byte"], ["byte"]⟩
def h_is_figure : He.DefD := ⟨("is_figure", none), "is_figure", "is_figure", defArgs s_is_figure, defBody s_is_figure, defScope s_is_figure, [], []⟩
abbrev s_is_small : Stmt := top 47
def x_is_small : Dx := ⟨"is_small", "is_small", defArgs s_is_small, defBody s_is_small, defScope s_is_small, ["byte"], ["byte"]⟩
def h_is_small : He.DefD := ⟨("is_small", none), "is_small", "is_small", defArgs s_is_small, defBody s_is_small, defScope s_is_small, [], []⟩
abbrev s_hex_worth : Stmt := top 48
def x_hex_worth : Dx := ⟨"hex_worth", "hex_worth", defArgs s_hex_worth, defBody s_hex_worth, defScope s_hex_worth, ["byte"], ["byte"]⟩
def h_hex_worth : He.DefD := ⟨("hex_worth", none), "hex_worth", "hex_worth", defArgs s_hex_worth, defBody s_hex_worth, defScope s_hex_worth, [], []⟩
abbrev s_read_value : Stmt := top 50
def x_read_value : Dx := ⟨"read_value", "read_value", defArgs s_read_value, defBody s_read_value, defScope s_read_value, ["source", "byte"], ["source"]⟩
def h_read_value : He.DefD := ⟨("read_value", none), "read_value", "read_value", defArgs s_read_value, defBody s_read_value, defScope s_read_value, [], []⟩
abbrev s_read_expressions : Stmt := top 51
def x_read_expressions : Dx := ⟨"read_expressions", "read_expressions", defArgs s_read_expressions, defBody s_read_expressions, defScope s_read_expressions, ["row", "source", "lists", "places", "byte", "place", "done"], ["row"]⟩
def h_read_expressions : He.DefD := ⟨("read_expressions", none), "read_expressions", "read_expressions", defArgs s_read_expressions, defBody s_read_expressions, defScope s_read_expressions, [], []⟩
abbrev s_plain_pieces : Stmt := top 62
def x_plain_pieces : Dx := ⟨"plain_pieces", "plain_pieces", defArgs s_plain_pieces, defBody s_plain_pieces, defScope s_plain_pieces, ["word", "point"], ["word"]⟩
def h_plain_pieces : He.DefD := ⟨("plain_pieces", none), "plain_pieces", "plain_pieces", defArgs s_plain_pieces, defBody s_plain_pieces, defScope s_plain_pieces, [], []⟩
abbrev s_default_counted : Stmt := top 63
def x_default_counted : Dx := ⟨"default_counted", "default_counted", defArgs s_default_counted, defBody s_default_counted, defScope s_default_counted, ["ahead", "behind"], ["ahead", "behind"]⟩
def h_default_counted : He.DefD := ⟨("default_counted", none), "default_counted", "default_counted", defArgs s_default_counted, defBody s_default_counted, defScope s_default_counted, [], []⟩
abbrev s_default_heading : Stmt := top 64
def x_default_heading : Dx := ⟨"default_heading", "default_heading", defArgs s_default_heading, defBody s_default_heading, defScope s_default_heading, ["level", "found", "k"], ["level"]⟩
def h_default_heading : He.DefD := ⟨("default_heading", none), "default_heading", "default_heading", defArgs s_default_heading, defBody s_default_heading, defScope s_default_heading, [], []⟩
abbrev s_whole_at : Stmt := top 65
def x_whole_at : Dx := ⟨"whole_at", "whole_at", defArgs s_whole_at, defBody s_whole_at, defScope s_whole_at, ["expression", "low", "high", "value", "place"], ["expression", "low", "high"]⟩
def h_whole_at : He.DefD := ⟨("whole_at", none), "whole_at", "whole_at", defArgs s_whole_at, defBody s_whole_at, defScope s_whole_at, [], []⟩
abbrev s_text_at : Stmt := top 66
def x_text_at : Dx := ⟨"text_at", "text_at", defArgs s_text_at, defBody s_text_at, defScope s_text_at, ["expression", "value", "place"], ["expression"]⟩
def h_text_at : He.DefD := ⟨("text_at", none), "text_at", "text_at", defArgs s_text_at, defBody s_text_at, defScope s_text_at, [], []⟩
abbrev s_pattern_at : Stmt := top 67
def x_pattern_at : Dx := ⟨"pattern_at", "pattern_at", defArgs s_pattern_at, defBody s_pattern_at, defScope s_pattern_at, ["expression", "text", "found"], ["expression"]⟩
def h_pattern_at : He.DefD := ⟨("pattern_at", none), "pattern_at", "pattern_at", defArgs s_pattern_at, defBody s_pattern_at, defScope s_pattern_at, [], []⟩
abbrev s_read_settings : Stmt := top 69
def x_read_settings : Dx := ⟨"read_settings", "read_settings", defArgs s_read_settings, defBody s_read_settings, defScope s_read_settings, ["row", "found", "expression"], ["row"]⟩
def h_read_settings : He.DefD := ⟨("read_settings", none), "read_settings", "read_settings", defArgs s_read_settings, defBody s_read_settings, defScope s_read_settings, [], []⟩
abbrev s_check : Stmt := top 71
def x_check : Dx := ⟨"check", "check", defArgs s_check, defBody s_check, defScope s_check, ["settings", "e"], ["settings"]⟩
def h_check : He.DefD := ⟨("check", none), "check", "check", defArgs s_check, defBody s_check, defScope s_check, [], []⟩
abbrev s_Source___init__ : Stmt := inClass (top 49) 0
def x_Source___init__ : Dx := ⟨"__init__", "Source.__init__", defArgs s_Source___init__, defBody s_Source___init__, defScope s_Source___init__, ["self", "row"], ["self", "row"]⟩
def h_Source___init__ : He.DefD := ⟨("Source", some "__init__"), "__init__", "Source.__init__", defArgs s_Source___init__, defBody s_Source___init__, defScope s_Source___init__, [], []⟩
abbrev s_Source_is_over : Stmt := inClass (top 49) 1
def x_Source_is_over : Dx := ⟨"is_over", "Source.is_over", defArgs s_Source_is_over, defBody s_Source_is_over, defScope s_Source_is_over, ["self"], ["self"]⟩
def h_Source_is_over : He.DefD := ⟨("Source", some "is_over"), "is_over", "Source.is_over", defArgs s_Source_is_over, defBody s_Source_is_over, defScope s_Source_is_over, [], []⟩
abbrev s_Source_pass_remark : Stmt := inClass (top 49) 2
def x_Source_pass_remark : Dx := ⟨"pass_remark", "Source.pass_remark", defArgs s_Source_pass_remark, defBody s_Source_pass_remark, defScope s_Source_pass_remark, ["self"], ["self"]⟩
def h_Source_pass_remark : He.DefD := ⟨("Source", some "pass_remark"), "pass_remark", "Source.pass_remark", defArgs s_Source_pass_remark, defBody s_Source_pass_remark, defScope s_Source_pass_remark, [], []⟩
abbrev s_Source_integer : Stmt := inClass (top 49) 3
def x_Source_integer : Dx := ⟨"integer", "Source.integer", defArgs s_Source_integer, defBody s_Source_integer, defScope s_Source_integer, ["self", "begin", "found", "many"], ["self"]⟩
def h_Source_integer : He.DefD := ⟨("Source", some "integer"), "integer", "Source.integer", defArgs s_Source_integer, defBody s_Source_integer, defScope s_Source_integer, [], []⟩
abbrev s_Source_symbol : Stmt := inClass (top 49) 4
def x_Source_symbol : Dx := ⟨"symbol", "Source.symbol", defArgs s_Source_symbol, defBody s_Source_symbol, defScope s_Source_symbol, ["self", "found", "byte"], ["self"]⟩
def h_Source_symbol : He.DefD := ⟨("Source", some "symbol"), "symbol", "Source.symbol", defArgs s_Source_symbol, defBody s_Source_symbol, defScope s_Source_symbol, [], []⟩
abbrev s_Source_string : Stmt := inClass (top 49) 5
def x_Source_string : Dx := ⟨"string", "Source.string", defArgs s_Source_string, defBody s_Source_string, defScope s_Source_string, ["self", "found", "byte"], ["self"]⟩
def h_Source_string : He.DefD := ⟨("Source", some "string"), "string", "Source.string", defArgs s_Source_string, defBody s_Source_string, defScope s_Source_string, [], []⟩
abbrev s_Source_character : Stmt := inClass (top 49) 6
def x_Source_character : Dx := ⟨"character", "Source.character", defArgs s_Source_character, defBody s_Source_character, defScope s_Source_character, ["self", "point", "many"], ["self"]⟩
def h_Source_character : He.DefD := ⟨("Source", some "character"), "character", "Source.character", defArgs s_Source_character, defBody s_Source_character, defScope s_Source_character, [], []⟩
abbrev s_Source_escape : Stmt := inClass (top 49) 7
def x_Source_escape : Dx := ⟨"escape", "Source.escape", defArgs s_Source_escape, defBody s_Source_escape, defScope s_Source_escape, ["self", "begin", "byte", "found", "many"], ["self"]⟩
def h_Source_escape : He.DefD := ⟨("Source", some "escape"), "escape", "Source.escape", defArgs s_Source_escape, defBody s_Source_escape, defScope s_Source_escape, [], []⟩
abbrev s_Source_stands : Stmt := inClass (top 49) 8
def x_Source_stands : Dx := ⟨"stands", "Source.stands", defArgs s_Source_stands, defBody s_Source_stands, defScope s_Source_stands, ["self", "byte"], ["self", "byte"]⟩
def h_Source_stands : He.DefD := ⟨("Source", some "stands"), "stands", "Source.stands", defArgs s_Source_stands, defBody s_Source_stands, defScope s_Source_stands, [], []⟩
abbrev s_Source_hexadecimal : Stmt := inClass (top 49) 9
def x_Source_hexadecimal : Dx := ⟨"hexadecimal", "Source.hexadecimal", defArgs s_Source_hexadecimal, defBody s_Source_hexadecimal, defScope s_Source_hexadecimal, ["self", "found", "many"], ["self"]⟩
def h_Source_hexadecimal : He.DefD := ⟨("Source", some "hexadecimal"), "hexadecimal", "Source.hexadecimal", defArgs s_Source_hexadecimal, defBody s_Source_hexadecimal, defScope s_Source_hexadecimal, [], []⟩
abbrev s_Settings___init__ : Stmt := inClass (top 68) 0
def x_Settings___init__ : Dx := ⟨"__init__", "Settings.__init__", defArgs s_Settings___init__, defBody s_Settings___init__, defScope s_Settings___init__, ["self", "levels", "level", "word", "ahead", "behind"], ["self"]⟩
def h_Settings___init__ : He.DefD := ⟨("Settings", some "__init__"), "__init__", "Settings.__init__", defArgs s_Settings___init__, defBody s_Settings___init__, defScope s_Settings___init__, [], []⟩
abbrev s_Settings_take : Stmt := inClass (top 68) 1
def x_Settings_take : Dx := ⟨"take", "Settings.take", defArgs s_Settings_take, defBody s_Settings_take, defScope s_Settings_take, ["self", "expression", "word", "arguments", "value", "place", "pieces"], ["self", "expression"]⟩
def h_Settings_take : He.DefD := ⟨("Settings", some "take"), "take", "Settings.take", defArgs s_Settings_take, defBody s_Settings_take, defScope s_Settings_take, [], []⟩
abbrev s_Settings_take_skip : Stmt := inClass (top 68) 2
def x_Settings_take_skip : Dx := ⟨"take_skip", "Settings.take_skip", defArgs s_Settings_take_skip, defBody s_Settings_take_skip, defScope s_Settings_take_skip, ["self", "argument", "text"], ["self", "argument"]⟩
def h_Settings_take_skip : He.DefD := ⟨("Settings", some "take_skip"), "take_skip", "Settings.take_skip", defArgs s_Settings_take_skip, defBody s_Settings_take_skip, defScope s_Settings_take_skip, [], []⟩
abbrev s_Settings_take_level : Stmt := inClass (top 68) 3
def x_Settings_take_level : Dx := ⟨"take_level", "Settings.take_level", defArgs s_Settings_take_level, defBody s_Settings_take_level, defScope s_Settings_take_level, ["self", "word", "arguments", "level"], ["self", "word", "arguments"]⟩
def h_Settings_take_level : He.DefD := ⟨("Settings", some "take_level"), "take_level", "Settings.take_level", defArgs s_Settings_take_level, defBody s_Settings_take_level, defScope s_Settings_take_level, [], []⟩
def dxL : List (Option Dx) := [some x_check_place, some x_codes, some x_is_point, some x_length_by, some x_sequence_at, some x_is_label_sign, some x_is_label, some x_number_piece, some x_pieces_of, some x_is_figure, some x_is_small, some x_hex_worth, some x_read_value, some x_read_expressions, some x_plain_pieces, some x_default_counted, some x_default_heading, some x_whole_at, some x_text_at, some x_pattern_at, some x_read_settings, some x_check, some x_Source___init__, some x_Source_is_over, some x_Source_pass_remark, some x_Source_integer, some x_Source_symbol, some x_Source_string, some x_Source_character, some x_Source_escape, some x_Source_stands, some x_Source_hexadecimal, some x_Settings___init__, some x_Settings_take, some x_Settings_take_skip, some x_Settings_take_level]
def dx (f : Nat) : Option Dx := match dxL[f]? with | some (some d) => some d | _ => none
abbrev s_Fault_init : Stmt := inClass (top 2) 0
def h_Fault_init : He.DefD := ⟨("Fault", some "__init__"), "__init__", "Fault.__init__", defArgs s_Fault_init, defBody s_Fault_init, defScope s_Fault_init, [], []⟩
abbrev s_NoPattern_init : Stmt := inClass (top 3) 0
def h_NoPattern_init : He.DefD := ⟨("NoPattern", some "__init__"), "__init__", "NoPattern.__init__", defArgs s_NoPattern_init, defBody s_NoPattern_init, defScope s_NoPattern_init, [], []⟩
def fn : List He.DefD := [h_check_place, h_codes, h_is_point, h_length_by, h_sequence_at, h_is_label_sign, h_is_label, h_number_piece, h_pieces_of, h_is_figure, h_is_small, h_hex_worth, h_read_value, h_read_expressions, h_plain_pieces, h_default_counted, h_default_heading, h_whole_at, h_text_at, h_pattern_at, h_read_settings, h_check, h_Source___init__, h_Source_is_over, h_Source_pass_remark, h_Source_integer, h_Source_symbol, h_Source_string, h_Source_character, h_Source_escape, h_Source_stands, h_Source_hexadecimal, h_Settings___init__, h_Settings_take, h_Settings_take_skip, h_Settings_take_level, h_Fault_init, h_NoPattern_init]
def fa : List He.Fa := [.glo "check_place", .glo "codes", .glo "is_point", .glo "length_by", .glo "sequence_at", .glo "is_label_sign", .glo "is_label", .glo "number_piece", .glo "pieces_of", .glo "is_figure", .glo "is_small", .glo "hex_worth", .glo "read_value", .glo "read_expressions", .glo "plain_pieces", .glo "default_counted", .glo "default_heading", .glo "whole_at", .glo "text_at", .glo "pattern_at", .glo "read_settings", .glo "check", .glo "Fault", .glo "NoPattern", .int "MOST_LABEL" (40), .int "PERCENT" (37), .int "COUNTER" (99), .int "LITERAL" (-1), .int "ARABIC" (0), .int "MOST_LEVEL_texts" (6), .int "TOO_EARLY" (1), .int "UNEXPECTED" (2), .int "BAD_ESCAPE" (3), .int "BAD_UTF" (4), .int "BAD_INTEGER" (5), .int "TOO_DEEP" (6), .int "MOST_DEEP" (16), .int "MOST_DIGITS" (6), .int "MOST_HEX" (6), .int "LEFT" (40), .int "RIGHT" (41), .int "QUOTE" (34), .int "BACKSLASH" (92), .int "REMARK" (59), .int "LINE_END" (10), .int "HYPHEN" (45), .int "LETTER_U" (117), .int "LEFT_BRACE" (123), .int "RIGHT_BRACE" (125), .int "NO_SETTING" (7), .int "BAD_ARGUMENTS" (8), .int "OUT_OF_RANGE" (9), .int "MOST_LEVEL_settings" (6), .int "MOST_START" (9999), .int "POINT" (46), .free "len", .free "ord", .free "tuple", .free "any", .free "all", .free "str", .free "int", .free "max", .free "divmod", .free "range", .free "ValueError", .free "list", .free "dict", .free "isinstance", .free "enumerate", .free "zip", .exm "Fault" "Fault" true, .exm "Fault" "NoPattern" false, .exm "NoPattern" "Fault" false, .exm "NoPattern" "NoPattern" true, .str "SMALL" "abcdefghijklmnopqrstuvwxyz", .str "FIGURES" "0123456789abcdef", .glo "ARGUMENTS", .glo "Source", .cls "Source", .mkr "Source", .noat "Source" "row", .noat "Source" "at", .glo "Settings", .cls "Settings", .mkr "Settings", .noat "Settings" "headings", .noat "Settings" "first_numbers", .noat "Settings" "patterns", .noat "Settings" "restarts", .noat "Settings" "skipped", .meth "Source" "__init__", .meth "Source" "is_over", .meth "Source" "pass_remark", .meth "Source" "integer", .meth "Source" "symbol", .meth "Source" "string", .meth "Source" "character", .meth "Source" "escape", .meth "Source" "stands", .meth "Source" "hexadecimal", .meth "Settings" "__init__", .meth "Settings" "take", .meth "Settings" "take_skip", .meth "Settings" "take_level"]
def ex (K : PySem.W.Frag) : Bool := tupF K "BLANKS" t_BLANKS && tupF K "LABEL_SIGNS" t_LABEL_SIGNS && tupF K "COUNTED" t_COUNTED && tupF K "DEFAULTS" t_DEFAULTS && xcB K "Fault" ["kind", "place"] && xcB K "NoPattern" [] && vvB K && dicF K "SHAPES" d_SHAPES && dicF K "ESCAPES" d_ESCAPES && noL K && dsB K (He.ga K "ARGUMENTS") d_ARGUMENTS
theorem ex_noL {K : PySem.W.Frag} (m : ex K = true) : noL K = true := by
  unfold ex at m
  simp only [Bool.and_eq_true] at m
  exact m.1.2
def xad (K : PySem.W.Frag) : Nat → Addr
  | 0 => He.ga K "Fault"
  | 1 => He.ga K "NoPattern"
  | _ => 0
def xt (K : PySem.W.Frag) : Xt := ⟨xad K, fun c => tb.xf.getD c [], 2⟩
def cad (K : PySem.W.Frag) : Nat → Addr
  | 0 => He.ga K "Source"
  | 1 => He.ga K "Settings"
  | _ => 0
def T (K : PySem.W.Frag) : Tx := ⟨K, cad K, fun c => tb.cf.getD c [], fun _ => none⟩
def ts : List He.Tab := [((fun K => He.ga K "ARGUMENTS"), ["heading", "start", "figure", "table", "formula", "note", "skip"])]
theorem sc_check_place : FnScope x_check_place.N x_check_place.ps x_check_place.scope := ⟨rfl, rfl, rfl, by decide +kernel, rfl, by decide +kernel, by decide +kernel⟩
theorem m_check_place : mSs ⟨tb, x_check_place.N, x_check_place.scope, true, true, true⟩ f_check_place.body x_check_place.body = true := by decide +kernel
theorem sc_codes : FnScope x_codes.N x_codes.ps x_codes.scope := ⟨rfl, rfl, rfl, by decide +kernel, rfl, by decide +kernel, by decide +kernel⟩
theorem m_codes : mSs ⟨tb, x_codes.N, x_codes.scope, true, true, true⟩ f_codes.body x_codes.body = true := by decide +kernel
theorem sc_is_point : FnScope x_is_point.N x_is_point.ps x_is_point.scope := ⟨rfl, rfl, rfl, by decide +kernel, rfl, by decide +kernel, by decide +kernel⟩
theorem m_is_point : mSs ⟨tb, x_is_point.N, x_is_point.scope, true, true, true⟩ f_is_point.body x_is_point.body = true := by decide +kernel
theorem sc_length_by : FnScope x_length_by.N x_length_by.ps x_length_by.scope := ⟨rfl, rfl, rfl, by decide +kernel, rfl, by decide +kernel, by decide +kernel⟩
theorem m_length_by : mSs ⟨tb, x_length_by.N, x_length_by.scope, true, true, true⟩ f_length_by.body x_length_by.body = true := by decide +kernel
theorem sc_sequence_at : FnScope x_sequence_at.N x_sequence_at.ps x_sequence_at.scope := ⟨rfl, rfl, rfl, by decide +kernel, rfl, by decide +kernel, by decide +kernel⟩
theorem m_sequence_at : mSs ⟨tb, x_sequence_at.N, x_sequence_at.scope, true, true, true⟩ f_sequence_at.body x_sequence_at.body = true := by decide +kernel
theorem sc_is_label_sign : FnScope x_is_label_sign.N x_is_label_sign.ps x_is_label_sign.scope := ⟨rfl, rfl, rfl, by decide +kernel, rfl, by decide +kernel, by decide +kernel⟩
theorem m_is_label_sign : mSs ⟨tb, x_is_label_sign.N, x_is_label_sign.scope, true, true, true⟩ f_is_label_sign.body x_is_label_sign.body = true := by decide +kernel
theorem sc_is_label : FnScope x_is_label.N x_is_label.ps x_is_label.scope := ⟨rfl, rfl, rfl, by decide +kernel, rfl, by decide +kernel, by decide +kernel⟩
theorem m_is_label : mSs ⟨tb, x_is_label.N, x_is_label.scope, true, true, true⟩ f_is_label.body x_is_label.body = true := by decide +kernel
theorem sc_number_piece : FnScope x_number_piece.N x_number_piece.ps x_number_piece.scope := ⟨rfl, rfl, rfl, by decide +kernel, rfl, by decide +kernel, by decide +kernel⟩
theorem m_number_piece : mSs ⟨tb, x_number_piece.N, x_number_piece.scope, true, true, true⟩ f_number_piece.body x_number_piece.body = true := by decide +kernel
theorem sc_pieces_of : FnScope x_pieces_of.N x_pieces_of.ps x_pieces_of.scope := ⟨rfl, rfl, rfl, by decide +kernel, rfl, by decide +kernel, by decide +kernel⟩
theorem m_pieces_of : mSs ⟨tb, x_pieces_of.N, x_pieces_of.scope, true, true, true⟩ f_pieces_of.body x_pieces_of.body = true := by decide +kernel
theorem sc_is_figure : FnScope x_is_figure.N x_is_figure.ps x_is_figure.scope := ⟨rfl, rfl, rfl, by decide +kernel, rfl, by decide +kernel, by decide +kernel⟩
theorem m_is_figure : mSs ⟨tb, x_is_figure.N, x_is_figure.scope, true, true, true⟩ f_is_figure.body x_is_figure.body = true := by decide +kernel
theorem sc_is_small : FnScope x_is_small.N x_is_small.ps x_is_small.scope := ⟨rfl, rfl, rfl, by decide +kernel, rfl, by decide +kernel, by decide +kernel⟩
theorem m_is_small : mSs ⟨tb, x_is_small.N, x_is_small.scope, true, true, true⟩ f_is_small.body x_is_small.body = true := by decide +kernel
theorem sc_hex_worth : FnScope x_hex_worth.N x_hex_worth.ps x_hex_worth.scope := ⟨rfl, rfl, rfl, by decide +kernel, rfl, by decide +kernel, by decide +kernel⟩
theorem m_hex_worth : mSs ⟨tb, x_hex_worth.N, x_hex_worth.scope, true, true, true⟩ f_hex_worth.body x_hex_worth.body = true := by decide +kernel
theorem sc_read_value : FnScope x_read_value.N x_read_value.ps x_read_value.scope := ⟨rfl, rfl, rfl, by decide +kernel, rfl, by decide +kernel, by decide +kernel⟩
theorem m_read_value : mSs ⟨tb, x_read_value.N, x_read_value.scope, true, true, true⟩ f_read_value.body x_read_value.body = true := by decide +kernel
theorem sc_read_expressions : FnScope x_read_expressions.N x_read_expressions.ps x_read_expressions.scope := ⟨rfl, rfl, rfl, by decide +kernel, rfl, by decide +kernel, by decide +kernel⟩
theorem m_read_expressions : mSs ⟨tb, x_read_expressions.N, x_read_expressions.scope, true, true, true⟩ f_read_expressions.body x_read_expressions.body = true := by decide +kernel
theorem sc_plain_pieces : FnScope x_plain_pieces.N x_plain_pieces.ps x_plain_pieces.scope := ⟨rfl, rfl, rfl, by decide +kernel, rfl, by decide +kernel, by decide +kernel⟩
theorem m_plain_pieces : mSs ⟨tb, x_plain_pieces.N, x_plain_pieces.scope, true, true, true⟩ f_plain_pieces.body x_plain_pieces.body = true := by decide +kernel
theorem sc_default_counted : FnScope x_default_counted.N x_default_counted.ps x_default_counted.scope := ⟨rfl, rfl, rfl, by decide +kernel, rfl, by decide +kernel, by decide +kernel⟩
theorem m_default_counted : mSs ⟨tb, x_default_counted.N, x_default_counted.scope, true, true, true⟩ f_default_counted.body x_default_counted.body = true := by decide +kernel
theorem sc_default_heading : FnScope x_default_heading.N x_default_heading.ps x_default_heading.scope := ⟨rfl, rfl, rfl, by decide +kernel, rfl, by decide +kernel, by decide +kernel⟩
theorem m_default_heading : mSs ⟨tb, x_default_heading.N, x_default_heading.scope, true, true, true⟩ f_default_heading.body x_default_heading.body = true := by decide +kernel
theorem sc_whole_at : FnScope x_whole_at.N x_whole_at.ps x_whole_at.scope := ⟨rfl, rfl, rfl, by decide +kernel, rfl, by decide +kernel, by decide +kernel⟩
theorem m_whole_at : mSs ⟨tb, x_whole_at.N, x_whole_at.scope, true, true, true⟩ f_whole_at.body x_whole_at.body = true := by decide +kernel
theorem sc_text_at : FnScope x_text_at.N x_text_at.ps x_text_at.scope := ⟨rfl, rfl, rfl, by decide +kernel, rfl, by decide +kernel, by decide +kernel⟩
theorem m_text_at : mSs ⟨tb, x_text_at.N, x_text_at.scope, true, true, true⟩ f_text_at.body x_text_at.body = true := by decide +kernel
theorem sc_pattern_at : FnScope x_pattern_at.N x_pattern_at.ps x_pattern_at.scope := ⟨rfl, rfl, rfl, by decide +kernel, rfl, by decide +kernel, by decide +kernel⟩
theorem m_pattern_at : mSs ⟨tb, x_pattern_at.N, x_pattern_at.scope, true, true, true⟩ f_pattern_at.body x_pattern_at.body = true := by decide +kernel
theorem sc_read_settings : FnScope x_read_settings.N x_read_settings.ps x_read_settings.scope := ⟨rfl, rfl, rfl, by decide +kernel, rfl, by decide +kernel, by decide +kernel⟩
theorem m_read_settings : mSs ⟨tb, x_read_settings.N, x_read_settings.scope, true, true, true⟩ f_read_settings.body x_read_settings.body = true := by decide +kernel
theorem sc_check : FnScope x_check.N x_check.ps x_check.scope := ⟨rfl, rfl, rfl, by decide +kernel, rfl, by decide +kernel, by decide +kernel⟩
theorem m_check : mSs ⟨tb, x_check.N, x_check.scope, true, false, true⟩ f_check.body x_check.body = true := by decide +kernel
theorem sc_Source___init__ : FnScope x_Source___init__.N x_Source___init__.ps x_Source___init__.scope := ⟨rfl, rfl, rfl, by decide +kernel, rfl, by decide +kernel, by decide +kernel⟩
theorem m_Source___init__ : mSs ⟨tb, x_Source___init__.N, x_Source___init__.scope, true, true, true⟩ f_Source___init__.body x_Source___init__.body = true := by decide +kernel
theorem sc_Source_is_over : FnScope x_Source_is_over.N x_Source_is_over.ps x_Source_is_over.scope := ⟨rfl, rfl, rfl, by decide +kernel, rfl, by decide +kernel, by decide +kernel⟩
theorem m_Source_is_over : mSs ⟨tb, x_Source_is_over.N, x_Source_is_over.scope, true, true, true⟩ f_Source_is_over.body x_Source_is_over.body = true := by decide +kernel
theorem sc_Source_pass_remark : FnScope x_Source_pass_remark.N x_Source_pass_remark.ps x_Source_pass_remark.scope := ⟨rfl, rfl, rfl, by decide +kernel, rfl, by decide +kernel, by decide +kernel⟩
theorem m_Source_pass_remark : mSs ⟨tb, x_Source_pass_remark.N, x_Source_pass_remark.scope, true, true, true⟩ f_Source_pass_remark.body x_Source_pass_remark.body = true := by decide +kernel
theorem sc_Source_integer : FnScope x_Source_integer.N x_Source_integer.ps x_Source_integer.scope := ⟨rfl, rfl, rfl, by decide +kernel, rfl, by decide +kernel, by decide +kernel⟩
theorem m_Source_integer : mSs ⟨tb, x_Source_integer.N, x_Source_integer.scope, true, true, true⟩ f_Source_integer.body x_Source_integer.body = true := by decide +kernel
theorem sc_Source_symbol : FnScope x_Source_symbol.N x_Source_symbol.ps x_Source_symbol.scope := ⟨rfl, rfl, rfl, by decide +kernel, rfl, by decide +kernel, by decide +kernel⟩
theorem m_Source_symbol : mSs ⟨tb, x_Source_symbol.N, x_Source_symbol.scope, true, true, true⟩ f_Source_symbol.body x_Source_symbol.body = true := by decide +kernel
theorem sc_Source_string : FnScope x_Source_string.N x_Source_string.ps x_Source_string.scope := ⟨rfl, rfl, rfl, by decide +kernel, rfl, by decide +kernel, by decide +kernel⟩
theorem m_Source_string : mSs ⟨tb, x_Source_string.N, x_Source_string.scope, true, true, true⟩ f_Source_string.body x_Source_string.body = true := by decide +kernel
theorem sc_Source_character : FnScope x_Source_character.N x_Source_character.ps x_Source_character.scope := ⟨rfl, rfl, rfl, by decide +kernel, rfl, by decide +kernel, by decide +kernel⟩
theorem m_Source_character : mSs ⟨tb, x_Source_character.N, x_Source_character.scope, true, true, true⟩ f_Source_character.body x_Source_character.body = true := by decide +kernel
theorem sc_Source_escape : FnScope x_Source_escape.N x_Source_escape.ps x_Source_escape.scope := ⟨rfl, rfl, rfl, by decide +kernel, rfl, by decide +kernel, by decide +kernel⟩
theorem m_Source_escape : mSs ⟨tb, x_Source_escape.N, x_Source_escape.scope, true, true, true⟩ f_Source_escape.body x_Source_escape.body = true := by decide +kernel
theorem sc_Source_stands : FnScope x_Source_stands.N x_Source_stands.ps x_Source_stands.scope := ⟨rfl, rfl, rfl, by decide +kernel, rfl, by decide +kernel, by decide +kernel⟩
theorem m_Source_stands : mSs ⟨tb, x_Source_stands.N, x_Source_stands.scope, true, true, true⟩ f_Source_stands.body x_Source_stands.body = true := by decide +kernel
theorem sc_Source_hexadecimal : FnScope x_Source_hexadecimal.N x_Source_hexadecimal.ps x_Source_hexadecimal.scope := ⟨rfl, rfl, rfl, by decide +kernel, rfl, by decide +kernel, by decide +kernel⟩
theorem m_Source_hexadecimal : mSs ⟨tb, x_Source_hexadecimal.N, x_Source_hexadecimal.scope, true, true, true⟩ f_Source_hexadecimal.body x_Source_hexadecimal.body = true := by decide +kernel
theorem sc_Settings___init__ : FnScope x_Settings___init__.N x_Settings___init__.ps x_Settings___init__.scope := ⟨rfl, rfl, rfl, by decide +kernel, rfl, by decide +kernel, by decide +kernel⟩
theorem m_Settings___init__ : mSs ⟨tb, x_Settings___init__.N, x_Settings___init__.scope, true, true, true⟩ f_Settings___init__.body x_Settings___init__.body = true := by decide +kernel
theorem sc_Settings_take : FnScope x_Settings_take.N x_Settings_take.ps x_Settings_take.scope := ⟨rfl, rfl, rfl, by decide +kernel, rfl, by decide +kernel, by decide +kernel⟩
theorem m_Settings_take : mSs ⟨tb, x_Settings_take.N, x_Settings_take.scope, true, true, true⟩ f_Settings_take.body x_Settings_take.body = true := by decide +kernel
theorem sc_Settings_take_skip : FnScope x_Settings_take_skip.N x_Settings_take_skip.ps x_Settings_take_skip.scope := ⟨rfl, rfl, rfl, by decide +kernel, rfl, by decide +kernel, by decide +kernel⟩
theorem m_Settings_take_skip : mSs ⟨tb, x_Settings_take_skip.N, x_Settings_take_skip.scope, true, true, true⟩ f_Settings_take_skip.body x_Settings_take_skip.body = true := by decide +kernel
theorem sc_Settings_take_level : FnScope x_Settings_take_level.N x_Settings_take_level.ps x_Settings_take_level.scope := ⟨rfl, rfl, rfl, by decide +kernel, rfl, by decide +kernel, by decide +kernel⟩
theorem m_Settings_take_level : mSs ⟨tb, x_Settings_take_level.N, x_Settings_take_level.scope, true, true, true⟩ f_Settings_take_level.body x_Settings_take_level.body = true := by decide +kernel
theorem sc_Fault_init : FnScope ["self", "kind", "place"] ["self", "kind", "place"] (defScope s_Fault_init) := ⟨rfl, rfl, rfl, by decide +kernel, rfl, by decide +kernel, by decide +kernel⟩
theorem m_Fault_init : mInit ["kind", "place"] (defBody s_Fault_init) = true := by decide +kernel
theorem sc_NoPattern_init : FnScope ["self"] ["self"] (defScope s_NoPattern_init) := ⟨rfl, rfl, rfl, by decide +kernel, rfl, by decide +kernel, by decide +kernel⟩
theorem m_NoPattern_init : mInit [] (defBody s_NoPattern_init) = true := by decide +kernel
theorem dx_at {f : Nat} {d : Dx} (h : dx f = some d) : dxL[f]? = some (some d) := by
  unfold dx at h
  split at h
  · rename_i e; cases h; exact e
  · cases h
theorem stL : ∀ (f : Nat) (d : Dx), dxL[f]? = some (some d) → ∃ df, dfs[f]? = some df ∧ FnScope d.N d.ps d.scope ∧ df.np = d.ps.length ∧ df.ns = d.N.length ∧ mSs ⟨tb, d.N, d.scope, true, tb.md.getD f false, true⟩ df.body d.body = true
  | 0, d, h => by cases h; exact ⟨f_check_place, rfl, sc_check_place, rfl, rfl, m_check_place⟩
  | 1, d, h => by cases h; exact ⟨f_codes, rfl, sc_codes, rfl, rfl, m_codes⟩
  | 2, d, h => by cases h; exact ⟨f_is_point, rfl, sc_is_point, rfl, rfl, m_is_point⟩
  | 3, d, h => by cases h; exact ⟨f_length_by, rfl, sc_length_by, rfl, rfl, m_length_by⟩
  | 4, d, h => by cases h; exact ⟨f_sequence_at, rfl, sc_sequence_at, rfl, rfl, m_sequence_at⟩
  | 5, d, h => by cases h; exact ⟨f_is_label_sign, rfl, sc_is_label_sign, rfl, rfl, m_is_label_sign⟩
  | 6, d, h => by cases h; exact ⟨f_is_label, rfl, sc_is_label, rfl, rfl, m_is_label⟩
  | 7, d, h => by cases h; exact ⟨f_number_piece, rfl, sc_number_piece, rfl, rfl, m_number_piece⟩
  | 8, d, h => by cases h; exact ⟨f_pieces_of, rfl, sc_pieces_of, rfl, rfl, m_pieces_of⟩
  | 9, d, h => by cases h; exact ⟨f_is_figure, rfl, sc_is_figure, rfl, rfl, m_is_figure⟩
  | 10, d, h => by cases h; exact ⟨f_is_small, rfl, sc_is_small, rfl, rfl, m_is_small⟩
  | 11, d, h => by cases h; exact ⟨f_hex_worth, rfl, sc_hex_worth, rfl, rfl, m_hex_worth⟩
  | 12, d, h => by cases h; exact ⟨f_read_value, rfl, sc_read_value, rfl, rfl, m_read_value⟩
  | 13, d, h => by cases h; exact ⟨f_read_expressions, rfl, sc_read_expressions, rfl, rfl, m_read_expressions⟩
  | 14, d, h => by cases h; exact ⟨f_plain_pieces, rfl, sc_plain_pieces, rfl, rfl, m_plain_pieces⟩
  | 15, d, h => by cases h; exact ⟨f_default_counted, rfl, sc_default_counted, rfl, rfl, m_default_counted⟩
  | 16, d, h => by cases h; exact ⟨f_default_heading, rfl, sc_default_heading, rfl, rfl, m_default_heading⟩
  | 17, d, h => by cases h; exact ⟨f_whole_at, rfl, sc_whole_at, rfl, rfl, m_whole_at⟩
  | 18, d, h => by cases h; exact ⟨f_text_at, rfl, sc_text_at, rfl, rfl, m_text_at⟩
  | 19, d, h => by cases h; exact ⟨f_pattern_at, rfl, sc_pattern_at, rfl, rfl, m_pattern_at⟩
  | 20, d, h => by cases h; exact ⟨f_read_settings, rfl, sc_read_settings, rfl, rfl, m_read_settings⟩
  | 21, d, h => by cases h; exact ⟨f_check, rfl, sc_check, rfl, rfl, m_check⟩
  | 22, d, h => by cases h; exact ⟨f_Source___init__, rfl, sc_Source___init__, rfl, rfl, m_Source___init__⟩
  | 23, d, h => by cases h; exact ⟨f_Source_is_over, rfl, sc_Source_is_over, rfl, rfl, m_Source_is_over⟩
  | 24, d, h => by cases h; exact ⟨f_Source_pass_remark, rfl, sc_Source_pass_remark, rfl, rfl, m_Source_pass_remark⟩
  | 25, d, h => by cases h; exact ⟨f_Source_integer, rfl, sc_Source_integer, rfl, rfl, m_Source_integer⟩
  | 26, d, h => by cases h; exact ⟨f_Source_symbol, rfl, sc_Source_symbol, rfl, rfl, m_Source_symbol⟩
  | 27, d, h => by cases h; exact ⟨f_Source_string, rfl, sc_Source_string, rfl, rfl, m_Source_string⟩
  | 28, d, h => by cases h; exact ⟨f_Source_character, rfl, sc_Source_character, rfl, rfl, m_Source_character⟩
  | 29, d, h => by cases h; exact ⟨f_Source_escape, rfl, sc_Source_escape, rfl, rfl, m_Source_escape⟩
  | 30, d, h => by cases h; exact ⟨f_Source_stands, rfl, sc_Source_stands, rfl, rfl, m_Source_stands⟩
  | 31, d, h => by cases h; exact ⟨f_Source_hexadecimal, rfl, sc_Source_hexadecimal, rfl, rfl, m_Source_hexadecimal⟩
  | 32, d, h => by cases h; exact ⟨f_Settings___init__, rfl, sc_Settings___init__, rfl, rfl, m_Settings___init__⟩
  | 33, d, h => by cases h; exact ⟨f_Settings_take, rfl, sc_Settings_take, rfl, rfl, m_Settings_take⟩
  | 34, d, h => by cases h; exact ⟨f_Settings_take_skip, rfl, sc_Settings_take_skip, rfl, rfl, m_Settings_take_skip⟩
  | 35, d, h => by cases h; exact ⟨f_Settings_take_level, rfl, sc_Settings_take_level, rfl, rfl, m_Settings_take_level⟩
  | n + 36, d, h => nomatch h
section
variable {P : Program} {w : World} {K : PySem.W.Frag} {h : Heap} {mg : Str → Option Value} {base : Heap}
theorem fnsL (X : K.In h) (G : h.Ns mainGlobals mg) (c : He.SaysD fa fn K) : ∀ (f : Nat) (d : Dx), dxL[f]? = some (some d) → ∃ a fd, FunD K d.nm d.qual d.params d.body d.scope [] [] a fd ∧ Binds K fd d.ps [] ∧ (∀ x, tb.dn[f]? = some (some x) → mg x = some (.ref a)) ∧ ∀ c n, tb.mt[f]? = some (some (c, n)) → Meth K ((T K).cad c) n a
  | 0, d, e => by
    cases e
    obtain ⟨fd, F⟩ := c.def_ 0 (d := h_check_place) rfl
    exact ⟨_, fd, F, FunD.bindsN (ps := ["truth", "kind", "place"]) F fun _ _ _ _ _ _ us hl => match us, hl with | [_, _, _], _ => rfl, fun x e => by cases e; exact He.glo_ok X G (c.fact 0 (f := .glo "check_place") rfl), fun c n e => (nomatch e)⟩
  | 1, d, e => by
    cases e
    obtain ⟨fd, F⟩ := c.def_ 1 (d := h_codes) rfl
    exact ⟨_, fd, F, FunD.bindsN (ps := ["word"]) F fun _ _ _ _ _ _ us hl => match us, hl with | [_], _ => rfl, fun x e => by cases e; exact He.glo_ok X G (c.fact 1 (f := .glo "codes") rfl), fun c n e => (nomatch e)⟩
  | 2, d, e => by
    cases e
    obtain ⟨fd, F⟩ := c.def_ 2 (d := h_is_point) rfl
    exact ⟨_, fd, F, FunD.bindsN (ps := ["number"]) F fun _ _ _ _ _ _ us hl => match us, hl with | [_], _ => rfl, fun x e => by cases e; exact He.glo_ok X G (c.fact 2 (f := .glo "is_point") rfl), fun c n e => (nomatch e)⟩
  | 3, d, e => by
    cases e
    obtain ⟨fd, F⟩ := c.def_ 3 (d := h_length_by) rfl
    exact ⟨_, fd, F, FunD.bindsN (ps := ["byte"]) F fun _ _ _ _ _ _ us hl => match us, hl with | [_], _ => rfl, fun x e => by cases e; exact He.glo_ok X G (c.fact 3 (f := .glo "length_by") rfl), fun c n e => (nomatch e)⟩
  | 4, d, e => by
    cases e
    obtain ⟨fd, F⟩ := c.def_ 4 (d := h_sequence_at) rfl
    exact ⟨_, fd, F, FunD.bindsN (ps := ["row", "at"]) F fun _ _ _ _ _ _ us hl => match us, hl with | [_, _], _ => rfl, fun x e => by cases e; exact He.glo_ok X G (c.fact 4 (f := .glo "sequence_at") rfl), fun c n e => (nomatch e)⟩
  | 5, d, e => by
    cases e
    obtain ⟨fd, F⟩ := c.def_ 5 (d := h_is_label_sign) rfl
    exact ⟨_, fd, F, FunD.bindsN (ps := ["point"]) F fun _ _ _ _ _ _ us hl => match us, hl with | [_], _ => rfl, fun x e => by cases e; exact He.glo_ok X G (c.fact 5 (f := .glo "is_label_sign") rfl), fun c n e => (nomatch e)⟩
  | 6, d, e => by
    cases e
    obtain ⟨fd, F⟩ := c.def_ 6 (d := h_is_label) rfl
    exact ⟨_, fd, F, FunD.bindsN (ps := ["text"]) F fun _ _ _ _ _ _ us hl => match us, hl with | [_], _ => rfl, fun x e => by cases e; exact He.glo_ok X G (c.fact 6 (f := .glo "is_label") rfl), fun c n e => (nomatch e)⟩
  | 7, d, e => by
    cases e
    obtain ⟨fd, F⟩ := c.def_ 7 (d := h_number_piece) rfl
    exact ⟨_, fd, F, FunD.bindsN (ps := ["text", "at"]) F fun _ _ _ _ _ _ us hl => match us, hl with | [_, _], _ => rfl, fun x e => by cases e; exact He.glo_ok X G (c.fact 7 (f := .glo "number_piece") rfl), fun c n e => (nomatch e)⟩
  | 8, d, e => by
    cases e
    obtain ⟨fd, F⟩ := c.def_ 8 (d := h_pieces_of) rfl
    exact ⟨_, fd, F, FunD.bindsN (ps := ["text"]) F fun _ _ _ _ _ _ us hl => match us, hl with | [_], _ => rfl, fun x e => by cases e; exact He.glo_ok X G (c.fact 8 (f := .glo "pieces_of") rfl), fun c n e => (nomatch e)⟩
  | 9, d, e => by
    cases e
    obtain ⟨fd, F⟩ := c.def_ 9 (d := h_is_figure) rfl
    exact ⟨_, fd, F, FunD.bindsN (ps := ["byte"]) F fun _ _ _ _ _ _ us hl => match us, hl with | [_], _ => rfl, fun x e => by cases e; exact He.glo_ok X G (c.fact 9 (f := .glo "is_figure") rfl), fun c n e => (nomatch e)⟩
  | 10, d, e => by
    cases e
    obtain ⟨fd, F⟩ := c.def_ 10 (d := h_is_small) rfl
    exact ⟨_, fd, F, FunD.bindsN (ps := ["byte"]) F fun _ _ _ _ _ _ us hl => match us, hl with | [_], _ => rfl, fun x e => by cases e; exact He.glo_ok X G (c.fact 10 (f := .glo "is_small") rfl), fun c n e => (nomatch e)⟩
  | 11, d, e => by
    cases e
    obtain ⟨fd, F⟩ := c.def_ 11 (d := h_hex_worth) rfl
    exact ⟨_, fd, F, FunD.bindsN (ps := ["byte"]) F fun _ _ _ _ _ _ us hl => match us, hl with | [_], _ => rfl, fun x e => by cases e; exact He.glo_ok X G (c.fact 11 (f := .glo "hex_worth") rfl), fun c n e => (nomatch e)⟩
  | 12, d, e => by
    cases e
    obtain ⟨fd, F⟩ := c.def_ 12 (d := h_read_value) rfl
    exact ⟨_, fd, F, FunD.bindsN (ps := ["source"]) F fun _ _ _ _ _ _ us hl => match us, hl with | [_], _ => rfl, fun x e => by cases e; exact He.glo_ok X G (c.fact 12 (f := .glo "read_value") rfl), fun c n e => (nomatch e)⟩
  | 13, d, e => by
    cases e
    obtain ⟨fd, F⟩ := c.def_ 13 (d := h_read_expressions) rfl
    exact ⟨_, fd, F, FunD.bindsN (ps := ["row"]) F fun _ _ _ _ _ _ us hl => match us, hl with | [_], _ => rfl, fun x e => by cases e; exact He.glo_ok X G (c.fact 13 (f := .glo "read_expressions") rfl), fun c n e => (nomatch e)⟩
  | 14, d, e => by
    cases e
    obtain ⟨fd, F⟩ := c.def_ 14 (d := h_plain_pieces) rfl
    exact ⟨_, fd, F, FunD.bindsN (ps := ["word"]) F fun _ _ _ _ _ _ us hl => match us, hl with | [_], _ => rfl, fun x e => by cases e; exact He.glo_ok X G (c.fact 14 (f := .glo "plain_pieces") rfl), fun c n e => (nomatch e)⟩
  | 15, d, e => by
    cases e
    obtain ⟨fd, F⟩ := c.def_ 15 (d := h_default_counted) rfl
    exact ⟨_, fd, F, FunD.bindsN (ps := ["ahead", "behind"]) F fun _ _ _ _ _ _ us hl => match us, hl with | [_, _], _ => rfl, fun x e => by cases e; exact He.glo_ok X G (c.fact 15 (f := .glo "default_counted") rfl), fun c n e => (nomatch e)⟩
  | 16, d, e => by
    cases e
    obtain ⟨fd, F⟩ := c.def_ 16 (d := h_default_heading) rfl
    exact ⟨_, fd, F, FunD.bindsN (ps := ["level"]) F fun _ _ _ _ _ _ us hl => match us, hl with | [_], _ => rfl, fun x e => by cases e; exact He.glo_ok X G (c.fact 16 (f := .glo "default_heading") rfl), fun c n e => (nomatch e)⟩
  | 17, d, e => by
    cases e
    obtain ⟨fd, F⟩ := c.def_ 17 (d := h_whole_at) rfl
    exact ⟨_, fd, F, FunD.bindsN (ps := ["expression", "low", "high"]) F fun _ _ _ _ _ _ us hl => match us, hl with | [_, _, _], _ => rfl, fun x e => by cases e; exact He.glo_ok X G (c.fact 17 (f := .glo "whole_at") rfl), fun c n e => (nomatch e)⟩
  | 18, d, e => by
    cases e
    obtain ⟨fd, F⟩ := c.def_ 18 (d := h_text_at) rfl
    exact ⟨_, fd, F, FunD.bindsN (ps := ["expression"]) F fun _ _ _ _ _ _ us hl => match us, hl with | [_], _ => rfl, fun x e => by cases e; exact He.glo_ok X G (c.fact 18 (f := .glo "text_at") rfl), fun c n e => (nomatch e)⟩
  | 19, d, e => by
    cases e
    obtain ⟨fd, F⟩ := c.def_ 19 (d := h_pattern_at) rfl
    exact ⟨_, fd, F, FunD.bindsN (ps := ["expression"]) F fun _ _ _ _ _ _ us hl => match us, hl with | [_], _ => rfl, fun x e => by cases e; exact He.glo_ok X G (c.fact 19 (f := .glo "pattern_at") rfl), fun c n e => (nomatch e)⟩
  | 20, d, e => by
    cases e
    obtain ⟨fd, F⟩ := c.def_ 20 (d := h_read_settings) rfl
    exact ⟨_, fd, F, FunD.bindsN (ps := ["row"]) F fun _ _ _ _ _ _ us hl => match us, hl with | [_], _ => rfl, fun x e => by cases e; exact He.glo_ok X G (c.fact 20 (f := .glo "read_settings") rfl), fun c n e => (nomatch e)⟩
  | 21, d, e => by
    cases e
    obtain ⟨fd, F⟩ := c.def_ 21 (d := h_check) rfl
    exact ⟨_, fd, F, FunD.bindsN (ps := ["settings"]) F fun _ _ _ _ _ _ us hl => match us, hl with | [_], _ => rfl, fun x e => by cases e; exact He.glo_ok X G (c.fact 21 (f := .glo "check") rfl), fun c n e => (nomatch e)⟩
  | 22, d, e => by
    cases e
    obtain ⟨fd, F⟩ := c.def_ 22 (d := h_Source___init__) rfl
    exact ⟨_, fd, F, FunD.bindsN (ps := ["self", "row"]) F fun _ _ _ _ _ _ us hl => match us, hl with | [_, _], _ => rfl, fun x e => (nomatch e), fun c2 n2 e => by cases e; exact He.meth_ok (c.fact 91 (f := .meth "Source" "__init__") rfl)⟩
  | 23, d, e => by
    cases e
    obtain ⟨fd, F⟩ := c.def_ 23 (d := h_Source_is_over) rfl
    exact ⟨_, fd, F, FunD.bindsN (ps := ["self"]) F fun _ _ _ _ _ _ us hl => match us, hl with | [_], _ => rfl, fun x e => (nomatch e), fun c2 n2 e => by cases e; exact He.meth_ok (c.fact 92 (f := .meth "Source" "is_over") rfl)⟩
  | 24, d, e => by
    cases e
    obtain ⟨fd, F⟩ := c.def_ 24 (d := h_Source_pass_remark) rfl
    exact ⟨_, fd, F, FunD.bindsN (ps := ["self"]) F fun _ _ _ _ _ _ us hl => match us, hl with | [_], _ => rfl, fun x e => (nomatch e), fun c2 n2 e => by cases e; exact He.meth_ok (c.fact 93 (f := .meth "Source" "pass_remark") rfl)⟩
  | 25, d, e => by
    cases e
    obtain ⟨fd, F⟩ := c.def_ 25 (d := h_Source_integer) rfl
    exact ⟨_, fd, F, FunD.bindsN (ps := ["self"]) F fun _ _ _ _ _ _ us hl => match us, hl with | [_], _ => rfl, fun x e => (nomatch e), fun c2 n2 e => by cases e; exact He.meth_ok (c.fact 94 (f := .meth "Source" "integer") rfl)⟩
  | 26, d, e => by
    cases e
    obtain ⟨fd, F⟩ := c.def_ 26 (d := h_Source_symbol) rfl
    exact ⟨_, fd, F, FunD.bindsN (ps := ["self"]) F fun _ _ _ _ _ _ us hl => match us, hl with | [_], _ => rfl, fun x e => (nomatch e), fun c2 n2 e => by cases e; exact He.meth_ok (c.fact 95 (f := .meth "Source" "symbol") rfl)⟩
  | 27, d, e => by
    cases e
    obtain ⟨fd, F⟩ := c.def_ 27 (d := h_Source_string) rfl
    exact ⟨_, fd, F, FunD.bindsN (ps := ["self"]) F fun _ _ _ _ _ _ us hl => match us, hl with | [_], _ => rfl, fun x e => (nomatch e), fun c2 n2 e => by cases e; exact He.meth_ok (c.fact 96 (f := .meth "Source" "string") rfl)⟩
  | 28, d, e => by
    cases e
    obtain ⟨fd, F⟩ := c.def_ 28 (d := h_Source_character) rfl
    exact ⟨_, fd, F, FunD.bindsN (ps := ["self"]) F fun _ _ _ _ _ _ us hl => match us, hl with | [_], _ => rfl, fun x e => (nomatch e), fun c2 n2 e => by cases e; exact He.meth_ok (c.fact 97 (f := .meth "Source" "character") rfl)⟩
  | 29, d, e => by
    cases e
    obtain ⟨fd, F⟩ := c.def_ 29 (d := h_Source_escape) rfl
    exact ⟨_, fd, F, FunD.bindsN (ps := ["self"]) F fun _ _ _ _ _ _ us hl => match us, hl with | [_], _ => rfl, fun x e => (nomatch e), fun c2 n2 e => by cases e; exact He.meth_ok (c.fact 98 (f := .meth "Source" "escape") rfl)⟩
  | 30, d, e => by
    cases e
    obtain ⟨fd, F⟩ := c.def_ 30 (d := h_Source_stands) rfl
    exact ⟨_, fd, F, FunD.bindsN (ps := ["self", "byte"]) F fun _ _ _ _ _ _ us hl => match us, hl with | [_, _], _ => rfl, fun x e => (nomatch e), fun c2 n2 e => by cases e; exact He.meth_ok (c.fact 99 (f := .meth "Source" "stands") rfl)⟩
  | 31, d, e => by
    cases e
    obtain ⟨fd, F⟩ := c.def_ 31 (d := h_Source_hexadecimal) rfl
    exact ⟨_, fd, F, FunD.bindsN (ps := ["self"]) F fun _ _ _ _ _ _ us hl => match us, hl with | [_], _ => rfl, fun x e => (nomatch e), fun c2 n2 e => by cases e; exact He.meth_ok (c.fact 100 (f := .meth "Source" "hexadecimal") rfl)⟩
  | 32, d, e => by
    cases e
    obtain ⟨fd, F⟩ := c.def_ 32 (d := h_Settings___init__) rfl
    exact ⟨_, fd, F, FunD.bindsN (ps := ["self"]) F fun _ _ _ _ _ _ us hl => match us, hl with | [_], _ => rfl, fun x e => (nomatch e), fun c2 n2 e => by cases e; exact He.meth_ok (c.fact 101 (f := .meth "Settings" "__init__") rfl)⟩
  | 33, d, e => by
    cases e
    obtain ⟨fd, F⟩ := c.def_ 33 (d := h_Settings_take) rfl
    exact ⟨_, fd, F, FunD.bindsN (ps := ["self", "expression"]) F fun _ _ _ _ _ _ us hl => match us, hl with | [_, _], _ => rfl, fun x e => (nomatch e), fun c2 n2 e => by cases e; exact He.meth_ok (c.fact 102 (f := .meth "Settings" "take") rfl)⟩
  | 34, d, e => by
    cases e
    obtain ⟨fd, F⟩ := c.def_ 34 (d := h_Settings_take_skip) rfl
    exact ⟨_, fd, F, FunD.bindsN (ps := ["self", "argument"]) F fun _ _ _ _ _ _ us hl => match us, hl with | [_, _], _ => rfl, fun x e => (nomatch e), fun c2 n2 e => by cases e; exact He.meth_ok (c.fact 103 (f := .meth "Settings" "take_skip") rfl)⟩
  | 35, d, e => by
    cases e
    obtain ⟨fd, F⟩ := c.def_ 35 (d := h_Settings_take_level) rfl
    exact ⟨_, fd, F, FunD.bindsN (ps := ["self", "word", "arguments"]) F fun _ _ _ _ _ _ us hl => match us, hl with | [_, _, _], _ => rfl, fun x e => (nomatch e), fun c2 n2 e => by cases e; exact He.meth_ok (c.fact 104 (f := .meth "Settings" "take_level") rfl)⟩
  | n + 36, d, e => nomatch e
theorem xcs (X : K.In h) (G : h.Ns mainGlobals mg) (c : He.SaysD fa fn K) (m : ex K = true) : ∀ (k : Nat) (y : Str), tb.xn[k]? = some y → XcK (xt K) tb P w K mg base k y
  | 0, y, e => by
    cases e
    unfold ex at m
    simp only [Bool.and_eq_true] at m
    have q := xcB_ok (m.1.1.1.1.1.1.2)
    have vv := vvB_ok (m.1.1.1.1.2)
    obtain ⟨fd, F⟩ := c.def_ 36 (d := h_Fault_init) rfl
    have bd : Binds K fd ["self", "kind", "place"] [] := FunD.bindsN F fun _ _ _ _ _ _ us hl => match us, hl with | [_, _, _], _ => rfl
    refine ⟨(by show 0 < 2; decide), He.glo_ok X G (c.fact 22 (f := .glo "Fault") rfl), q.1, q.2.1, (by show (["kind", "place"] : List Str).Nodup; decide +kernel), q.2.2.1, rfl, (by show (["kind", "place"] : List Str).length ≤ 10; decide), _, fd, ["self", "kind", "place"], q.2.2.2.1, q.2.2.2.2, bd, ?_⟩
    exact .inl ⟨(by show (["kind", "place"] : List Str) ≠ []; simp), init_ok F sc_Fault_init q.1 q.2.2.1 (by decide) vv (by decide +kernel) (He.free_ok X G (c.fact 65 (f := .free "ValueError") rfl)) (by decide +kernel) m_Fault_init, init_okH F sc_Fault_init q.1 q.2.2.1 (by decide) vv (by decide +kernel) (He.free_ok X G (c.fact 65 (f := .free "ValueError") rfl)) (by decide +kernel) m_Fault_init⟩
  | 1, y, e => by
    cases e
    unfold ex at m
    simp only [Bool.and_eq_true] at m
    have q := xcB_ok (m.1.1.1.1.1.2)
    have vv := vvB_ok (m.1.1.1.1.2)
    obtain ⟨fd, F⟩ := c.def_ 37 (d := h_NoPattern_init) rfl
    have bd : Binds K fd ["self"] [] := FunD.bindsN F fun _ _ _ _ _ _ us hl => match us, hl with | [_], _ => rfl
    refine ⟨(by show 1 < 2; decide), He.glo_ok X G (c.fact 23 (f := .glo "NoPattern") rfl), q.1, q.2.1, (by show ([] : List Str).Nodup; decide +kernel), q.2.2.1, rfl, (by show ([] : List Str).length ≤ 10; decide), _, fd, ["self"], q.2.2.2.1, q.2.2.2.2, bd, ?_⟩
    exact .inr ⟨rfl, init_bare F sc_NoPattern_init q.1 vv (by decide +kernel) (He.free_ok X G (c.fact 65 (f := .free "ValueError") rfl)) (by decide +kernel) m_NoPattern_init⟩
  | n + 2, y, e => nomatch e
theorem clss (X : K.In h) (G : h.Ns mainGlobals mg) (c : He.SaysD fa fn K) : ∀ (k : Nat) (y : Str), tb.cn[k]? = some (some y) → ClOk K (T K) k ∧ (T K).fn k = tb.cf.getD k [] ∧ mg y = some (.ref ((T K).cad k)) ∧ PySem.W.makesIn K ((T K).cad k) = true ∧ PySem.W.keepIn K (.ref ((T K).cad k)) = true
  | 0, y, e => by
    cases e
    have mk := He.mkr_ok (c.fact 80 (f := .mkr "Source") rfl)
    refine ⟨⟨He.cls_ok (c.fact 79 (f := .cls "Source") rfl), ?_, (by show (["row", "at"] : List Str).Nodup; decide +kernel), (by show (["row", "at"] : List Str).length ≤ 10; decide)⟩, rfl, He.glo_ok X G (c.fact 78 (f := .glo "Source") rfl), mk.makes, mk.kp⟩
    intro f hf
    have hf : f ∈ (["row", "at"] : List Str) := hf
    simp only [List.mem_cons, List.not_mem_nil, or_false] at hf
    rcases hf with rfl | rfl
    · exact He.noat_ok (c.fact 81 (f := .noat "Source" "row") rfl)
    · exact He.noat_ok (c.fact 82 (f := .noat "Source" "at") rfl)
  | 1, y, e => by
    cases e
    have mk := He.mkr_ok (c.fact 85 (f := .mkr "Settings") rfl)
    refine ⟨⟨He.cls_ok (c.fact 84 (f := .cls "Settings") rfl), ?_, (by show (["headings", "first_numbers", "patterns", "restarts", "skipped"] : List Str).Nodup; decide +kernel), (by show (["headings", "first_numbers", "patterns", "restarts", "skipped"] : List Str).length ≤ 10; decide)⟩, rfl, He.glo_ok X G (c.fact 83 (f := .glo "Settings") rfl), mk.makes, mk.kp⟩
    intro f hf
    have hf : f ∈ (["headings", "first_numbers", "patterns", "restarts", "skipped"] : List Str) := hf
    simp only [List.mem_cons, List.not_mem_nil, or_false] at hf
    rcases hf with rfl | rfl | rfl | rfl | rfl
    · exact He.noat_ok (c.fact 86 (f := .noat "Settings" "headings") rfl)
    · exact He.noat_ok (c.fact 87 (f := .noat "Settings" "first_numbers") rfl)
    · exact He.noat_ok (c.fact 88 (f := .noat "Settings" "patterns") rfl)
    · exact He.noat_ok (c.fact 89 (f := .noat "Settings" "restarts") rfl)
    · exact He.noat_ok (c.fact 90 (f := .noat "Settings" "skipped") rfl)
  | 2, y, e => nomatch e
  | 3, y, e => nomatch e
  | n + 4, y, e => nomatch e
theorem dn_dx : ∀ (f : Nat) (x : Str), tb.dn[f]? = some (some x) → ∃ d, dx f = some d
  | 0, _, _ => ⟨x_check_place, rfl⟩
  | 1, _, _ => ⟨x_codes, rfl⟩
  | 2, _, _ => ⟨x_is_point, rfl⟩
  | 3, _, _ => ⟨x_length_by, rfl⟩
  | 4, _, _ => ⟨x_sequence_at, rfl⟩
  | 5, _, _ => ⟨x_is_label_sign, rfl⟩
  | 6, _, _ => ⟨x_is_label, rfl⟩
  | 7, _, _ => ⟨x_number_piece, rfl⟩
  | 8, _, _ => ⟨x_pieces_of, rfl⟩
  | 9, _, _ => ⟨x_is_figure, rfl⟩
  | 10, _, _ => ⟨x_is_small, rfl⟩
  | 11, _, _ => ⟨x_hex_worth, rfl⟩
  | 12, _, _ => ⟨x_read_value, rfl⟩
  | 13, _, _ => ⟨x_read_expressions, rfl⟩
  | 14, _, _ => ⟨x_plain_pieces, rfl⟩
  | 15, _, _ => ⟨x_default_counted, rfl⟩
  | 16, _, _ => ⟨x_default_heading, rfl⟩
  | 17, _, _ => ⟨x_whole_at, rfl⟩
  | 18, _, _ => ⟨x_text_at, rfl⟩
  | 19, _, _ => ⟨x_pattern_at, rfl⟩
  | 20, _, _ => ⟨x_read_settings, rfl⟩
  | 21, _, _ => ⟨x_check, rfl⟩
  | 22, _, e => nomatch e
  | 23, _, e => nomatch e
  | 24, _, e => nomatch e
  | 25, _, e => nomatch e
  | 26, _, e => nomatch e
  | 27, _, e => nomatch e
  | 28, _, e => nomatch e
  | 29, _, e => nomatch e
  | 30, _, e => nomatch e
  | 31, _, e => nomatch e
  | 32, _, e => nomatch e
  | 33, _, e => nomatch e
  | 34, _, e => nomatch e
  | 35, _, e => nomatch e
  | n + 36, _, e => nomatch e
theorem mt_dx : ∀ (f c : Nat) (x : Str), tb.mt[f]? = some (some (c, x)) → ∃ d, dx f = some d
  | 0, _, _, e => nomatch e
  | 1, _, _, e => nomatch e
  | 2, _, _, e => nomatch e
  | 3, _, _, e => nomatch e
  | 4, _, _, e => nomatch e
  | 5, _, _, e => nomatch e
  | 6, _, _, e => nomatch e
  | 7, _, _, e => nomatch e
  | 8, _, _, e => nomatch e
  | 9, _, _, e => nomatch e
  | 10, _, _, e => nomatch e
  | 11, _, _, e => nomatch e
  | 12, _, _, e => nomatch e
  | 13, _, _, e => nomatch e
  | 14, _, _, e => nomatch e
  | 15, _, _, e => nomatch e
  | 16, _, _, e => nomatch e
  | 17, _, _, e => nomatch e
  | 18, _, _, e => nomatch e
  | 19, _, _, e => nomatch e
  | 20, _, _, e => nomatch e
  | 21, _, _, e => nomatch e
  | 22, _, _, _ => ⟨x_Source___init__, rfl⟩
  | 23, _, _, _ => ⟨x_Source_is_over, rfl⟩
  | 24, _, _, _ => ⟨x_Source_pass_remark, rfl⟩
  | 25, _, _, _ => ⟨x_Source_integer, rfl⟩
  | 26, _, _, _ => ⟨x_Source_symbol, rfl⟩
  | 27, _, _, _ => ⟨x_Source_string, rfl⟩
  | 28, _, _, _ => ⟨x_Source_character, rfl⟩
  | 29, _, _, _ => ⟨x_Source_escape, rfl⟩
  | 30, _, _, _ => ⟨x_Source_stands, rfl⟩
  | 31, _, _, _ => ⟨x_Source_hexadecimal, rfl⟩
  | 32, _, _, _ => ⟨x_Settings___init__, rfl⟩
  | 33, _, _, _ => ⟨x_Settings_take, rfl⟩
  | 34, _, _, _ => ⟨x_Settings_take_skip, rfl⟩
  | 35, _, _, _ => ⟨x_Settings_take_level, rfl⟩
  | n + 36, _, _, e => nomatch e
theorem glob (X : K.In h) (G : h.Ns mainGlobals mg) (ct : He.SaysT fa fn ts w K) (m : ex K = true) : Glob P w K mg base (xt K) tb dfs dx (T K) := by
  have c := ct.d
  exact {
    nums := fun x i e => by
      have hm : (x, i) ∈ tb.nums := PySem.mem_of_lookup e
      have hf : He.Fa.int x i ∈ fa := by
        have : ∀ p ∈ tb.nums, He.Fa.int p.1 p.2 ∈ fa := by
          intro p hp
          simp only [tb, List.mem_cons, List.not_mem_nil, or_false] at hp
          rcases hp with rfl | rfl | rfl | rfl | rfl | rfl | rfl | rfl | rfl | rfl | rfl | rfl | rfl | rfl | rfl | rfl | rfl | rfl | rfl | rfl | rfl | rfl | rfl | rfl | rfl | rfl | rfl | rfl | rfl | rfl | rfl <;> simp [fa]
        exact this _ hm
      obtain ⟨t, e2⟩ := He.int_ok X G (c.facts hf)
      exact ⟨_, e2, t, rfl⟩
    tups := fun p hp => by
      unfold ex at m
      simp only [Bool.and_eq_true] at m
      simp only [tb, List.mem_cons, List.not_mem_nil, or_false] at hp
      rcases hp with rfl | rfl | rfl | rfl
      · exact tupF_ok X G (m.1.1.1.1.1.1.1.1.1.1)
      · exact tupF_ok X G (m.1.1.1.1.1.1.1.1.1.2)
      · exact tupF_ok X G (m.1.1.1.1.1.1.1.1.2)
      · exact tupF_ok X G (m.1.1.1.1.1.1.1.2)
    free := fun x hx => by
      have : ∀ y ∈ tb.free, He.Fa.free y ∈ fa := by
        intro y hy
        simp only [tb, List.mem_cons, List.not_mem_nil, or_false] at hy
        rcases hy with rfl | rfl | rfl | rfl | rfl | rfl | rfl | rfl | rfl | rfl | rfl | rfl | rfl | rfl | rfl | rfl <;> simp [fa]
      exact He.free_ok X G (c.facts (this x hx))
    dics := fun x ps e => by
      unfold ex at m
      simp only [Bool.and_eq_true] at m
      have hm : (x, ps) ∈ tb.dics := PySem.mem_of_lookup e
      simp only [tb, List.mem_cons, List.not_mem_nil, or_false, Prod.mk.injEq] at hm
      rcases hm with ⟨rfl, rfl⟩ | ⟨rfl, rfl⟩
      · exact dicF_ok X G (m.1.1.1.2)
      · exact dicF_ok X G (m.1.1.2)
    txts := fun x cs e => by
      have hm : (x, cs) ∈ tb.txts := PySem.mem_of_lookup e
      simp only [tb, List.mem_cons, List.not_mem_nil, or_false, Prod.mk.injEq] at hm
      rcases hm with ⟨rfl, rfl⟩ | ⟨rfl, rfl⟩
      · obtain ⟨u, e2⟩ := He.str_ok X G (c.fact 75 (f := .str "SMALL" "abcdefghijklmnopqrstuvwxyz") rfl)
        exact ⟨_, e2, u, by rfl⟩
      · obtain ⟨u, e2⟩ := He.str_ok X G (c.fact 76 (f := .str "FIGURES" "0123456789abcdef") rfl)
        exact ⟨_, e2, u, by rfl⟩
    dicS := fun x ps e => by
      unfold ex at m
      simp only [Bool.and_eq_true] at m
      have hm : (x, ps) ∈ tb.dicS := PySem.mem_of_lookup e
      simp only [tb, List.mem_cons, List.not_mem_nil, or_false, Prod.mk.injEq] at hm
      rcases hm with ⟨rfl, rfl⟩
      · obtain ⟨es, n, kd⟩ := ct.tab 0 (t := ((fun K => He.ga K "ARGUMENTS"), ["heading", "start", "figure", "table", "formula", "note", "skip"])) rfl
        exact ⟨_, es, n, He.glo_ok X G (c.fact 77 (f := .glo "ARGUMENTS") rfl), kd, m.2⟩
    cls := clss X G c
    dn := fun f x e => by
      have hl : f < tb.dn.length := (List.getElem?_eq_some_iff.mp e).1
      exact dn_dx f x e
    mt := fun f k x e => mt_dx f k x e
    fn := fun f d e => fnsL X G c f d (dx_at e)
    st := fun f d e => stL f d (dx_at e)
    xc := xcs X G c m
    xe := fun i j hi hj => by
      have hi : i < 2 := hi
      have hj : j < 2 := hj
      match i, hi, j, hj with
      | 0, _, 0, _ => exact He.exm_ok (c.fact 71 (f := .exm "Fault" "Fault" true) rfl)
      | 0, _, 1, _ => exact He.exm_ok (c.fact 72 (f := .exm "Fault" "NoPattern" false) rfl)
      | 1, _, 0, _ => exact He.exm_ok (c.fact 73 (f := .exm "NoPattern" "Fault" false) rfl)
      | 1, _, 1, _ => exact He.exm_ok (c.fact 74 (f := .exm "NoPattern" "NoPattern" true) rfl)
  }
end
def nm0 : List Str := ["_wall", "Fault", "NoPattern", "check_place", "BLANKS", "MOST_LABEL", "LABEL_SIGNS", "PERCENT", "COUNTER", "LITERAL", "ARABIC", "SHAPES", "MOST_LEVEL_texts", "codes", "is_point", "length_by", "sequence_at", "is_label_sign", "is_label", "number_piece", "pieces_of", "TOO_EARLY", "UNEXPECTED", "BAD_ESCAPE", "BAD_UTF", "BAD_INTEGER", "TOO_DEEP", "MOST_DEEP", "MOST_DIGITS", "MOST_HEX"]
def nm1 : List Str := ["LEFT", "RIGHT", "QUOTE", "BACKSLASH", "REMARK", "LINE_END", "HYPHEN", "LETTER_U", "LEFT_BRACE", "RIGHT_BRACE", "ESCAPES", "SMALL", "FIGURES", "is_figure", "is_small", "hex_worth", "Source", "read_value", "read_expressions", "NO_SETTING", "BAD_ARGUMENTS", "OUT_OF_RANGE", "MOST_LEVEL_settings", "MOST_START", "COUNTED", "ARGUMENTS", "DEFAULTS", "POINT", "plain_pieces", "default_counted"]
def nm2 : List Str := ["default_heading", "whole_at", "text_at", "pattern_at", "Settings", "read_settings"]
def nms : List Str := nm0 ++ nm1 ++ nm2
abbrev R : PySem.W.OpenSpec := PySem.Challenge.rw_crossnumbers_s01_check
abbrev hk : PySem.W.Hook := He.hookX 6 fa fn ts [] ex
def ob (s : PySem.W.SharedT) : He.AlX := He.obsX 6 fa fn ts [] ex (HandSHeadRun.getT s)
theorem ob_eq (s : PySem.W.SharedT) : ob s = hk.obs s.abs := He.obsX_eq (HandSHeadRun.getT_eq s)
theorem ranTop0 (w : World) : HandSHeadRun.RunEqS R (PySem.W.view R.prog [71]) hk ob 9000 nms (w.withFollow "special-get-raises" false) := by
  intro os
  kernel_rfl
theorem ranTop1 (w : World) : HandSHeadRun.RunEqS R (PySem.W.view R.prog [71]) hk ob 9000 nms (w.withFollow "special-get-raises" true) := by
  intro os
  kernel_rfl
theorem ranTop (w : World) : HandSHeadRun.RunEqS R (PySem.W.view R.prog [71]) hk ob 9000 nms w := PySem.W.byRow2 "special-get-raises" (P := HandSHeadRun.RunEqS R (PySem.W.view R.prog [71]) hk ob 9000 nms) ranTop0 ranTop1 w
end S01
end Cn

namespace Cn
theorem nats_of {lo hi : Int} (h0 : 0 ≤ lo) : ∀ {l : List Int}, l.all (PySem.W.Codec.inInt lo hi) = true → ∃ ns : List Nat, l = ns.map Int.ofNat ∧ ∀ x ∈ ns, (x : Int) ≤ hi
  | [], _ => ⟨[], rfl, by simp⟩
  | i :: l, h => by
    rw [List.all_cons, Bool.and_eq_true] at h
    obtain ⟨a, b⟩ := PySem.W.Codec.inInt_iff.mp h.1
    obtain ⟨n, rfl⟩ := Int.eq_ofNat_of_zero_le (Int.le_trans h0 a)
    obtain ⟨ns, rfl, q⟩ := nats_of h0 h.2
    refine ⟨n :: ns, rfl, fun x hx => ?_⟩
    rcases List.mem_cons.mp hx with rfl | hx
    · exact b
    · exact q x hx
theorem nats_to (ns : List Nat) : (ns.map Int.ofNat).map Int.toNat = ns := by
  rw [List.map_map]
  exact List.map_id'' (fun _ => rfl) ns
namespace S01
open PySem PySem.Spec PyProof.Rows L2
open PySem.W (OpenSpec Codec WData)
theorem spec_of (ns : List Nat) : PyKh454.check (ns.map Int.ofNat) = UT.checkL ns := by
  have h : PyKh454.check (ns.map Int.ofNat) = Kh454Neutral.integers (Kh454.answer (.check ((ns.map Int.ofNat).map Int.toNat))) := rfl
  rw [h, nats_to]
  unfold UT.checkL
  show Kh454Neutral.integers (match Kh454.parseSettings ns with
    | .error e => { value := e.1, rest := [e.2] }
    | .ok _ => { value := 0, rest := [0] }) = _
  cases Kh454.parseSettings ns <;> rfl
theorem ok_row {w : World} {h : Heap} {mg : Str → Option Value} {fa : Addr} (yy : hk.says w h) (gr : h.Ns mainGlobals mg) (hmg : mg "check" = some (.ref fa)) : ∃ (K : PySem.W.Frag) (fd : FuncData) (sp : Sp), K.In h ∧
    (∀ (s : Shared) (us : List Value), us.length = 1 → BindsTo s fd ⟨us, []⟩ ((["settings"] : List Str).zip us)) ∧
    (∀ base : Heap, K.In base → base.Ns mainGlobals mg → FnOk R.prog w K mg base (L2.CX R.prog w) 20 fa fd ["settings"] sp) ∧
    ∀ (H : Hp) (xs : List V) (a : Codec.denoteAll R.args), OnlyF H → Codec.withinAll R.args a = true → Codec.app R.args R.asked a = true → DwAll K H xs (Codec.encAll R.args a) →
      sp xs H (fun v H' => Dw K H' v (R.ret.enc (Codec.app R.args R.f a))) fun _ _ _ => False := by
  obtain ⟨K, KX, c⟩ := yy
  have cd := c.t.d
  obtain ⟨fd0, F0⟩ := cd.def_ 21 (d := h_check) rfl
  have bnd := FunD.bindsA (ps := ["settings"]) F0 fun _ _ _ _ _ _ us hl => match us, hl with | [_], _ => rfl
  have all : ∀ base : Heap, K.In base → base.Ns mainGlobals mg → FnOk R.prog w K mg base (L2.CX R.prog w) 20 fa fd0 ["settings"] (spA (T K) (xt K) (Cn.run UT.dfs 9 21)) := by
    intro base hb1 hb2
    obtain ⟨a, fd, f1, f2, f3, _, f4⟩ := fnok (T := T K) rfl (glob (P := R.prog) (w := w) (base := base) KX gr c.t c.more) 9 21 x_check rfl
    have e := (f3 "check" rfl).symm.trans hmg
    cases e
    have e2 : fd = fd0 := by
      obtain ⟨oc, od, dV, kV, doc, pm, an, cdv, ct, osl, _, l1, _⟩ := f1.ex
      obtain ⟨oc', od', dV', kV', doc', pm', an', cdv', ct', osl', _, l2, _⟩ := F0.ex
      have g : He.fAd K h_check.at_ = fa := Option.some.inj (by
        have := He.glo_ok KX gr (cd.fact 21 (f := .glo "check") rfl)
        rw [hmg] at this
        cases this
        rfl)
      rw [g] at l2
      have l1' : K.lookup fa = _ := l1
      rw [l1'] at l2
      cases l2
      rfl
    subst e2
    exact f4
  refine ⟨K, fd0, _, KX, bnd, all, fun H xs a only hin _ dw => ?_⟩
  obtain ⟨st, u⟩ := a
  have hn : noL (T K).K = true := ex_noL c.more
  cases dw with
  | cons d1 d2 =>
    cases d2
    have d1' : Dw (T K).K H _ (.list (st.map WData.int)) := d1
    have q : (Codec.inList 0 600 (Codec.inInt 0 255) st && true) = true := hin
    rw [Bool.and_eq_true] at q
    obtain ⟨q1, _⟩ := q
    unfold Codec.inList at q1
    rw [Bool.and_eq_true] at q1
    obtain ⟨ns, rfl, nb⟩ := nats_of (by decide) q1.2
    have z1 : ns.length ≤ 600 := by
      have := q1.1
      simpa [Codec.inLen, Codec.inNat] using this
    have r1 := rd_of (T := (T K).wi fun _ => none) hn d1'
    have em : (ns.map Int.ofNat).map D.int = nD ns := by rw [List.map_map]; rfl
    rw [em] at r1
    refine ⟨fun _ => none, H, [], [], [.d (.lst (nD ns))], rel0 H, .cons r1 .nil, ?_⟩
    have ran : Cn.run UT.dfs 9 21 [.d (.lst (nD ns))] [] = _ := UT.r_check_ 0 ns (by omega)
    rw [ran]
    intro F' ρ' H' R' _ _ v hv
    have hv' : RD ((T K).wi fun _ => none) F' v (.lst ((UT.checkL ns).map D.int)) := hv
    rw [← spec_of ns] at hv'
    exact dw_of hv' R'.sub
end S01
end Cn
open PySem PySem.W PyProof.Rows in
set_option maxHeartbeats 8000000 in
theorem PySem.Challenge.cw_crossnumbers_s01_check_holds : PySem.Challenge.rw_crossnumbers_s01_check.Holds := by
  w_on
  refine HandSHeadRun.head_spec (r := PySem.Challenge.rw_crossnumbers_s01_check) (q := view PySem.Challenge.rw_crossnumbers_s01_check.prog [71]) (H := Cn.S01.hk) (ob := Cn.S01.ob) (M := 9000) (loose := Cn.S01.nms) (kwd := []) Cn.S01.ob_eq (by kernel_rfl) (fun s => by kernel_rfl) Cn.S01.ranTop
    (by rfl) (by rfl) (by rfl) os_shapes (by first | assumption | decide +kernel) (by decide +kernel) ⟨rfl, rfl, rfl, rfl, rfl, by decide +kernel⟩ ?hw ?hc
  case hw => exact ⟨[.list []], by decide +kernel, by decide +kernel⟩
  case hc =>
    refine Cn.walkE (depth := 20) (pars := ["settings"]) (by decide +kernel) rfl ⟨rfl, by decide, by decide⟩ fun w mg fa h yy gr hmg => ?_
    exact Cn.S01.ok_row yy gr hmg

