import PyProof.Rows.All
import Wide.All
import OpenK.AllK
import Wide.FinOn
import HandS.ForMost
import HandS.ForExc
import HandS.Defaults
import HandS.Flow
import HandS.Wide
import HandS.Zip
import HandS.Star
import HandS.NoneIn
import HandS.DictComp
import HandS.Style
import HandS.TupAny
import HandS.TupMul
import HandS.Deep
import HandS.IsInst
import HandS.Exc
import KE.GoesMore
import HandS.Comp
import HandS.Small
import PyProof.ReprLen
import PyProof.StrLawsRepr
import HandS.RaiseMore
import HandS.SetKeys
import HandS.SetFor
import HandS.Set
import HandS.Strs
import HandS.ReCall
import HandS.More
import KE.SortData
import KE.GoesZip
import KE.KItemsList
import HandS.Zip0
import HandS.HeadEnd
import HandS.HeadHook1
import HandS.HeadHook2
import HandS.HeadHook4
import HandS.EndBits
import KE.KStateDown
import PySem.Challenge.RW_rankweights_k31_limits_and_chains_told
import HandS.Head0
import HandS.Head1
import HandS.Head2
/-! Cy: a small evaluator of plain Python over plain data, as functions. Lists and dicts are values; a name may OWN one that was just made, and only then it is changed in place. -/
set_option linter.all false
namespace Cy

abbrev Nm := List Nat

inductive K where
  | i (n : Int) | s (x : Nm)
  deriving DecidableEq, Inhabited

inductive D where
  | non | bl (b : Bool) | int (i : Int) | str (s : Nm)
  | tup (l : List D) | lst (l : List D) | dic (l : List (K × D)) | dit (l : List (List K × D))
  | ref (n : Nat) | fro (l : List D) | frt (l : List D) | rep (d : D)
  deriving Inhabited

/-- a name's place: nothing, a value, or a list or dict that this name alone holds -/
inductive Sl where
  | no | val (d : D) | own (d : D)
  deriving Inhabited

/-- an object that is changed through references -/
inductive Ob where
  | dic (l : List (K × D)) | lst (l : List D) | dit (l : List (List K × D))
  deriving Inhabited

structure S where
  sg : List Sl
  h : List Ob

structure Exc where
  c : Nm
  fs : List (Nm × D)

inductive Res (α : Type) where
  | bad
  | ok (a : α) (s : S)
  | exc (x : Exc) (s : S)

@[inline] def Res.bind {α β : Type} : Res α → (α → S → Res β) → Res β
  | .bad, _ => .bad
  | .ok a s, f => f a s
  | .exc x s, _ => .exc x s

inductive CR where
  | bad
  | ok (d : D) (h : List Ob)
  | exc (x : Exc) (h : List Ob)

/-- what calls of defs give -/
abbrev G := Nm → List D → List Ob → CR
abbrev Ex := G → S → Res D
abbrev Ax := G → S → Res (List D)
abbrev Tx := G → S → Res Bool
abbrev Tg := D → S → Option S

inductive Fl where
  | bad
  | nx (s : S)
  | rt (d : D) (h : List Ob)
  | bk (s : S)
  | ct (s : S)
  | exc (x : Exc) (s : S)
abbrev Bl := G → S → Fl
def Res.thn {α : Type} : Res α → (α → S → Fl) → Fl
  | .bad, _ => .bad
  | .ok a s, f => f a s
  | .exc x s, _ => .exc x s

def lim : Nat := 16777216

/-! ### data -/
mutual
def eqv : D → D → Bool
  | .non, .non => true
  | .bl a, .bl b => a == b
  | .bl a, .int j => (if a then 1 else 0) == j
  | .int i, .bl b => i == (if b then 1 else 0)
  | .int i, .int j => i == j
  | .str x, .str y => x == y
  | .lst xs, .lst ys => eqvL xs ys
  | .tup xs, .tup ys => eqvL xs ys
  | _, _ => false
def eqvL : List D → List D → Bool
  | [], [] => true
  | x :: xs, y :: ys => eqv x y && eqvL xs ys
  | _, _ => false
end

/-- plain data of at most this depth -/
def pl : Nat → D → Bool
  | _, .non => true
  | _, .bl _ => true
  | _, .int _ => true
  | _, .str s => s.all fun c => Nat.blt c 1114112
  | n + 1, .tup l => l.all (pl n)
  | n + 1, .lst l => l.all (pl n)
  | _, _ => false
def plain (d : D) : Bool := pl 40 d

def truth : D → Option Bool
  | .non => some false
  | .bl b => some b
  | .int i => some (i != 0)
  | .str s => some (!s.isEmpty)
  | .tup l => some (!l.isEmpty)
  | .lst l => some (!l.isEmpty)
  | .dic l => some (!l.isEmpty)
  | _ => none

def key? : D → Option K
  | .int n => some (.i n)
  | .str x => some (.s x)
  | _ => none
/-- a tuple of texts alone, one at least -/
def isS : D → Bool
  | .str _ => true
  | _ => false
def sT : List D → Bool
  | [] => false
  | x :: r => isS x && r.all isS
def keys? : D → Option (List K)
  | .tup l => if sT l then none else l.mapM key?
  | _ => none
def kD : K → D
  | .i n => .int n
  | .s x => .str x
def dget {κ : Type} [DecidableEq κ] (l : List (κ × D)) (k : κ) : Option D := match l with
  | [] => none
  | (j, d) :: r => if j = k then some d else dget r k
def dput {κ : Type} [DecidableEq κ] (l : List (κ × D)) (k : κ) (d : D) : List (κ × D) :=
  if (l.any fun p => decide (p.1 = k)) = true then l.map (fun p => if p.1 = k then (p.1, d) else p) else l ++ [(k, d)]

/-- the place that an index means -/
def ixN (n : Nat) (i : Int) : Option Nat := if 0 ≤ i then (if i < n then some i.toNat else none) else if -(n : Int) ≤ i then some (i + n).toNat else none
def atI (l : List D) (i : Int) : Option D := match ixN l.length i with
  | some j => l[j]?
  | none => none
def sIx (n d : Nat) : Option Int → Nat
  | none => d
  | some v => if v < 0 then (v + (n : Int)).toNat else min v.toNat n
def cut {α : Type} (l : List α) (lo hi : Option Int) : List α := (l.drop (sIx l.length 0 lo)).take (sIx l.length l.length hi - sIx l.length 0 lo)

def findIx (p : D → Bool) : List D → Nat → Option Nat
  | [], _ => none
  | x :: r, n => if p x then some n else findIx p r (n + 1)

def lexLt : Nm → Nm → Bool
  | [], [] => false
  | [], _ :: _ => true
  | _ :: _, [] => false
  | x :: xs, y :: ys => if x = y then lexLt xs ys else decide (x < y)

/-! ### names, constants -/
def var (i : Nat) : Ex := fun _ s => match s.sg[i]? with
  | some (.val d) => .ok d s
  | some (.own d) => .ok d { s with sg := s.sg.set i (.val d) }
  | _ => .bad
def cst (d : D) : Ex := fun _ s => .ok d s

/-- an operand that is only read: a name's thing as it stands behind the other operands, or an expression -/
inductive Op where
  | pk (i : Nat) | ex (e : Ex)
def evP (i : Nat) (s : S) : Res D := match s.sg[i]? with
  | some .no => .bad
  | some _ => .ok .non s
  | none => .bad
def rdP (i : Nat) (s : S) : Option D := match s.sg[i]? with
  | some (.val d) => some d
  | some (.own d) => some d
  | _ => none
def Op.ev : Op → G → S → Res D
  | .pk i, _, s => evP i s
  | .ex e, g, s => e g s
def Op.rd : Op → D → S → Option D
  | .pk i, _, s => rdP i s
  | .ex _, d, _ => some d
def o1 (f : List Ob → D → Option D) (a : Op) : Ex := fun g s => (a.ev g s).bind fun x s => match a.rd x s with
  | some d => (match f s.h d with | some r => .ok r s | none => .bad)
  | none => .bad
def o2 (f : List Ob → D → D → Option D) (a b : Op) : Ex := fun g s => (a.ev g s).bind fun x s => (b.ev g s).bind fun y s => match a.rd x s, b.rd y s with
  | some d, some e => (match f s.h d e with | some r => .ok r s | none => .bad)
  | _, _ => .bad
def o3 (f : List Ob → D → D → D → Option D) (a b c : Op) : Ex := fun g s => (a.ev g s).bind fun x s => (b.ev g s).bind fun y s => (c.ev g s).bind fun z s => match a.rd x s, b.rd y s, c.rd z s with
  | some d, some e, some u => (match f s.h d e u with | some r => .ok r s | none => .bad)
  | _, _, _ => .bad

/-! ### operators on data -/
def dAdd : D → D → Option D
  | .int i, .int j => some (.int (i + j))
  | .str x, .str y => if x.length + y.length ≤ lim then some (.str (x ++ y)) else none
  | .tup x, .tup y => if x.length + y.length ≤ lim then some (.tup (x ++ y)) else none
  | .lst x, .lst y => if x.length + y.length ≤ lim then some (.lst (x ++ y)) else none
  | _, _ => none
def dSub : D → D → Option D
  | .int i, .int j => some (.int (i - j))
  | _, _ => none
/-- ints below 2 ^ 400000 in size -/
def fitI (n : Nat) (i : Int) : Bool := decide (i.natAbs.log2 < n)
def dMul : D → D → Option D
  | .int i, .int j => if fitI 400000 i && fitI 400000 j then some (.int (i * j)) else none
  | .lst x, .int k => if decide (-(2 ^ 63) ≤ k) && decide (k < 2 ^ 63) && decide (x.length * k.toNat ≤ lim) then some (.lst (List.replicate k.toNat x).flatten) else none
  | .tup x, .int k => if !sT x && !x.isEmpty && decide (2 ≤ k) && decide (k ≤ 1000) && decide (x.length ≤ 1000) then some (.tup (List.replicate k.toNat x).flatten) else none
  | _, _ => none
def dFdiv : D → D → Option D
  | .int i, .int j => if decide (0 < j) && fitI 9000 j then some (.int (i / j)) else none
  | _, _ => none
def dMod : D → D → Option D
  | .int i, .int j => if 0 < j then some (.int (i % j)) else none
  | _, _ => none
def dPow : D → D → Option D
  | .int i, .int j => if decide (0 ≤ j) && decide (j ≤ 1000000) && decide (i.natAbs < 2 ^ 64) then some (.int (i ^ j.toNat)) else none
  | _, _ => none
def dNeg : D → Option D
  | .int i => some (.int (-i))
  | _ => none
def dNot (d : D) : Option D := match truth d with
  | some b => some (.bl (!b))
  | none => none
mutual
/-- the same data, plain -/
def same : D → D → Bool
  | .non, .non => true
  | .bl a, .bl b => a == b
  | .int i, .int j => i == j
  | .str x, .str y => x == y
  | .lst xs, .lst ys => sameL xs ys
  | .tup xs, .tup ys => sameL xs ys
  | _, _ => false
def sameL : List D → List D → Bool
  | [], [] => true
  | x :: xs, y :: ys => same x y && sameL xs ys
  | _, _ => false
end
def eq? (x y : D) : Option Bool := match x, y with
  | .str a, .str b => some (a == b)
  | .rep a, .rep b => if same a b then some true else none
  | x, y => if plain x && plain y then some (eqv x y) else none
def dEq (x y : D) : Option D := (eq? x y).map .bl
def dNe (x y : D) : Option D := (eq? x y).map fun b => .bl (!b)
def dLt : D → D → Option D
  | .int i, .int j => some (.bl (decide (i < j)))
  | .str x, .str y => some (.bl (lexLt x y))
  | _, _ => none
def dLe : D → D → Option D
  | .int i, .int j => some (.bl (decide (i ≤ j)))
  | .str x, .str y => some (.bl (!lexLt y x))
  | _, _ => none
def dGt (x y : D) : Option D := dLt y x
def dGe (x y : D) : Option D := dLe y x
def dIsN : D → Option D
  | .non => some (.bl true)
  | _ => some (.bl false)
def dNotN : D → Option D
  | .non => some (.bl false)
  | _ => some (.bl true)
def inL (x : D) (l : List D) : Option Bool := if plain x && l.all plain then some (l.any fun y => eqv y x) else none
/-- a sign in a text -/
def inS (x y : Nm) : Option Bool := match x with
  | [c] => some (y.contains c)
  | _ => none
def dIn (h : List Ob) (x y : D) : Option D := match y with
  | .tup l => (inL x l).map .bl
  | .lst l => (inL x l).map .bl
  | .frt l => (inL x l).map .bl
  | .str t => (match x with | .str u => (inS u t).map .bl | _ => none)
  | .dic l => (match key? x with | some k => some (.bl (dget l k).isSome) | none => none)
  | .dit l => (match keys? x with | some k => some (.bl (dget l k).isSome) | none => none)
  | .ref n => (match h[n]? with
    | some (.dic l) => (match key? x with | some k => some (.bl (dget l k).isSome) | none => none)
    | some (.dit l) => (match keys? x with | some k => some (.bl (dget l k).isSome) | none => none)
    | _ => none)
  | _ => none
def dNotIn (h : List Ob) (x y : D) : Option D := match dIn h x y with
  | some (.bl b) => some (.bl (!b))
  | _ => none

/-- x[y] -/
def ixL (l : List D) (y : D) : Option D := match y with
  | .int i => atI l i
  | _ => none
def ixK (l : List (K × D)) (y : D) : Option D := match key? y with
  | some k => dget l k
  | none => none
def ixS (t : Nm) (y : D) : Option D := match y with
  | .int i => if t.length ≤ lim then (match ixN t.length i with | some j => (match t[j]? with | some c => some (.str [c]) | none => none) | none => none) else none
  | _ => none
def ixT (l : List (List K × D)) (y : D) : Option D := match keys? y with
  | some k => dget l k
  | none => none
def dIx (h : List Ob) (x y : D) : Option D := match x with
  | .tup l => ixL l y
  | .lst l => ixL l y
  | .fro l => ixL l y
  | .frt l => ixL l y
  | .str t => ixS t y
  | .dic l => ixK l y
  | .dit l => ixT l y
  | .ref n => (match h[n]? with
    | some (.dic l) => ixK l y
    | some (.lst l) => ixL l y
    | some (.dit l) => ixT l y
    | none => none)
  | _ => none
/-- what is asked of lists alone: a new one is made -/
def dAddL : D → D → Option D
  | .lst x, .lst y => if x.length + y.length ≤ lim then some (.lst (x ++ y)) else none
  | _, _ => none
def dMulL : D → D → Option D
  | .lst x, .int k => if decide (-(2 ^ 63) ≤ k) && decide (k < 2 ^ 63) && decide (x.length * k.toNat ≤ lim) then some (.lst (List.replicate k.toNat x).flatten) else none
  | _, _ => none
/-- x[lo:hi] -/
def dCut (x : D) (a b : Option Int) : Option D := match x with
  | .tup l => some (.tup (cut l a b))
  | .lst l => some (.lst (cut l a b))
  | .fro l => some (.lst (cut l a b))
  | .str l => if l.length ≤ lim then some (.str (cut l a b)) else none
  | _ => none
/-- x.get(k, d) -/
def isDic (h : List Ob) : D → Bool
  | .dic _ => true
  | .dit _ => true
  | .ref n => (match h[n]? with
    | some (.dic _) => true
    | some (.dit _) => true
    | _ => false)
  | _ => false
def getK (l : List (K × D)) (k d : D) : Option D := match key? k with
  | some k => some ((dget l k).getD d)
  | none => none
def getT (l : List (List K × D)) (k d : D) : Option D := match keys? k with
  | some k => some ((dget l k).getD d)
  | none => none
def dGet (h : List Ob) (x k d : D) : Option D := match x with
  | .dic l => getK l k d
  | .dit l => getT l k d
  | .ref n => (match h[n]? with
    | some (.dic l) => getK l k d
    | some (.dit l) => getT l k d
    | _ => none)
  | _ => none
def getE (a b : Op) (c : Ex) : Ex := fun g s => (a.ev g s).bind fun x s => match a.rd x s with
  | some d0 => if isDic s.h d0 then (b.ev g s).bind fun y s => (c g s).bind fun u s => (match a.rd x s, b.rd y s with
    | some d, some e => (match dGet s.h d e u with | some r => .ok r s | none => .bad)
    | _, _ => .bad) else .bad
  | none => .bad
/-- a slice's part -/
def partE : Option Ex → G → S → Res (Option Int)
  | none, _, s => .ok none s
  | some e, g, s => (e g s).bind fun x s => match x with
    | .int i => .ok (some i) s
    | _ => .bad
def cutE (a : Op) (lo hi : Option Ex) : Ex := fun g s => (a.ev g s).bind fun x s => (partE lo g s).bind fun l s => (partE hi g s).bind fun u s => match a.rd x s with
  | some d => (match dCut d l u with | some r => .ok r s | none => .bad)
  | none => .bad
/-- x[::-1], x[:0:-1] -/
def offD (b : Bool) : Nat := if b then 1 else 0
def dRevA (b : Bool) : D → Option D
  | .tup l => some (.tup (l.drop (offD b)).reverse)
  | .frt l => some (.tup (l.drop (offD b)).reverse)
  | .lst l => if b then none else some (.lst l.reverse)
  | .fro l => if b then none else some (.lst l.reverse)
  | _ => none
def dRev : D → Option D
  | .tup l => some (.tup l.reverse)
  | .lst l => some (.lst l.reverse)
  | .str l => some (.str l.reverse)
  | _ => none
def dRev0 : D → Option D
  | .tup l => some (.tup (l.drop 1).reverse)
  | .lst l => some (.lst (l.drop 1).reverse)
  | _ => none

def dLen (h : List Ob) : D → Option D
  | .tup l => some (.int l.length)
  | .frt l => some (.int l.length)
  | .fro l => some (.int l.length)
  | .lst l => some (.int l.length)
  | .str l => if l.length ≤ lim then some (.int l.length) else none
  | .dic l => some (.int l.length)
  | .ref n => (match h[n]? with
    | some (.dic l) => some (.int l.length)
    | some (.lst l) => some (.int l.length)
    | _ => none)
  | _ => none

/-! ### both, either, conditional -/
def eAnd (a b : Ex) : Ex := fun g s => (a g s).bind fun x s => match x with
  | .bl true => b g s
  | .bl false => .ok (.bl false) s
  | _ => .bad
def eOr (a b : Ex) : Ex := fun g s => (a g s).bind fun x s => match x with
  | .bl false => b g s
  | .bl true => .ok (.bl true) s
  | _ => .bad
def eIf (t : Tx) (a b : Ex) : Ex := fun g s => (t g s).bind fun c s => if c then a g s else b g s
/-- a op b op' c -/
def eChain (f f' : D → D → Option D) (a b c : Ex) : Ex := fun g s => (a g s).bind fun x s => (b g s).bind fun y s => match f x y with
  | some (.bl true) => (c g s).bind fun z s => (match f' y z with | some r => .ok r s | none => .bad)
  | some (.bl false) => .ok (.bl false) s
  | _ => .bad
/-- not a, of a bool -/
def eNot (a : Ex) : Ex := fun g s => (a g s).bind fun x s => match x with
  | .bl b => .ok (.bl (!b)) s
  | _ => .bad
def badE : Ex := fun _ _ => .bad
def badA : Ax := fun _ _ => .bad
def badT : Tx := fun _ _ => .bad
/-- tests -/
def tE (e : Ex) : Tx := fun g s => (e g s).bind fun x s => match x with
  | .bl b => .ok b s
  | _ => .bad
def tNot (t : Tx) : Tx := fun g s => (t g s).bind fun b s => .ok (!b) s
def tAnd (t u : Tx) : Tx := fun g s => (t g s).bind fun b s => if b then u g s else .ok false s
def tOr (t u : Tx) : Tx := fun g s => (t g s).bind fun b s => if b then .ok true s else u g s
def tIf (t a b : Tx) : Tx := fun g s => (t g s).bind fun c s => if c then a g s else b g s

/-! ### rows of expressions, displays -/
def aNil : Ax := fun _ s => .ok [] s
def aCons (e : Ex) (r : Ax) : Ax := fun g s => (e g s).bind fun x s => (r g s).bind fun xs s => .ok (x :: xs) s
def items? : D → Option (List D)
  | .tup l => some l
  | .lst l => some l
  | _ => none
/-- *e, then the others -/
def aStar (e : Ex) (r : Ax) : Ax := fun g s => (e g s).bind fun x s => match items? x with
  | some l => (r g s).bind fun xs s => if l.length + xs.length ≤ lim then .ok (l ++ xs) s else .bad
  | none => .bad
def tupE (a : Ax) : Ex := fun g s => (a g s).bind fun l s => if l.length ≤ lim then .ok (.tup l) s else .bad
def lstE (a : Ax) : Ex := fun g s => (a g s).bind fun l s => if l.length ≤ lim then .ok (.lst l) s else .bad

/-! ### targets -/
def gName (i : Nat) : Tg := fun d s => if i < s.sg.length then some { s with sg := s.sg.set i (.val d) } else none
def gTups : List Tg → List D → S → Option S
  | [], [], s => some s
  | t :: ts, d :: ds, s => (match t d s with | some s => gTups ts ds s | none => none)
  | _, _, _ => none
def gTup (ts : List Tg) : Tg := fun d s => match d with
  | .tup l => gTups ts l s
  | .lst l => gTups ts l s
  | _ => none

/-! ### what is walked -/
/-- the things that a walk over e gives -/
abbrev Ix := G → S → Res (List D)
def walk? : D → Option (List D)
  | .tup l => some l
  | .fro l => some l
  | .frt l => some l
  | .lst l => some l
  | .str l => some (l.map fun c => .str [c])
  | .dic l => some (l.map fun p => kD p.1)
  | .dit l => if (l.all fun p => !sT (p.1.map kD)) then some (l.map fun p => .tup (p.1.map kD)) else none
  | _ => none
def iVal (e : Ex) : Ix := fun g s => (e g s).bind fun x s => match walk? x with
  | some l => .ok l s
  | none => .bad
def upto (lo : Int) : Nat → List D
  | 0 => []
  | n + 1 => .int lo :: upto (lo + 1) n
def smallI (i : Int) : Bool := decide (-(2 ^ 40) ≤ i) && decide (i ≤ 2 ^ 40)
def upby (lo c : Int) : Nat → List D
  | 0 => []
  | n + 1 => .int lo :: upby (lo + c) c n
def numbered (n : Int) : List D → List D
  | [] => []
  | x :: r => .tup [.int n, x] :: numbered (n + 1) r
def zipped : List D → List D → List D
  | x :: xs, y :: ys => .tup [x, y] :: zipped xs ys
  | _, _ => []
/-- no pair of texts -/
def pairOk (l : List D) : Bool := l.all fun d => match d with
  | .tup p => !sT p
  | _ => true
/-- what a built-in iterator of these gives -/
def fRng1 : List D → Option (List D)
  | [.int j] => if smallI j then some (upto 0 j.toNat) else none
  | _ => none
def fRng2 : List D → Option (List D)
  | [.int i, .int j] => if smallI i && smallI j then some (upto i (j - i).toNat) else none
  | _ => none
/-- range(i, j, -1) -/
def fRngD : List D → Option (List D)
  | [.int i, .int j, .int c] => if smallI i && smallI j then (if c = -1 then some (upby i (-1) (i - j).toNat) else if decide (1 ≤ c) && decide (c ≤ 1000) then some (upby i c (if i < j then (j - i - 1) / c + 1 else 0).toNat) else none) else none
  | _ => none
/-- reversed(range(j)) -/
def fRev1 : List D → Option (List D)
  | [.int j] => if smallI j then some (upby ((j.toNat : Int) - 1) (-1) j.toNat) else none
  | _ => none
def fEnumL : List D → Option (List D)
  | [.lst l] => some (numbered 0 l)
  | [.fro l] => some (numbered 0 l)
  | [.tup l] => some (numbered 0 l)
  | [.frt l] => some (numbered 0 l)
  | _ => none
def fZip : List D → Option (List D)
  | [.lst l, .lst m] => if pairOk (zipped l m) then some (zipped l m) else none
  | [.tup l, .tup m] => if pairOk (zipped l m) then some (zipped l m) else none
  | _ => none
def iArgs (f : List D → Option (List D)) (a : Ax) : Ix := fun g s => (a g s).bind fun ds s => match f ds with
  | some l => .ok l s
  | none => .bad

def badI : Ix := fun _ _ => .bad

/-! ### comprehensions -/
def unset (σ : List Sl) : List Nat → List Sl
  | [] => σ
  | v :: vs => (unset σ vs).set v .no
/-- own places stand as before -/
def back (σ σ' : List Sl) : List Nat → List Sl
  | [] => σ'
  | v :: vs => (back σ σ' vs).set v (σ.getD v .no)
def isOwn : Sl → Bool
  | .own _ => true
  | _ => false
/-- no exception leaves -/
def Res.nox {α : Type} : Res α → Res α
  | .exc _ _ => .bad
  | r => r
/-- a turn: the target stored, the test, then f on what is gathered -/
def turns (tg : Tg) (t : Tx) (f : D → G → S → Res D) (vs : List Nat) (g : G) : List D → D → S → Res D
  | [], acc, s => .ok acc s
  | d :: ds, acc, s => match tg d { s with sg := unset s.sg vs } with
    | none => .bad
    | some s => (t g s).nox.bind fun b s => if b then (f acc g s).nox.bind fun acc s => turns tg t f vs g ds acc s else turns tg t f vs g ds acc s
def tYes : Tx := fun _ s => .ok true s
def gathL (e : Ex) : D → G → S → Res D := fun acc g s => (e g s).bind fun x s => match acc with
  | .lst a => if a.length < lim then .ok (.lst (a ++ [x])) s else .bad
  | _ => .bad
def gathD (k v : Ex) : D → G → S → Res D := fun acc g s => (k g s).bind fun x s => (v g s).bind fun y s => match acc, key? x with
  | .dic a, some k => if a.length < lim then .ok (.dic (dput a k y)) s else .bad
  | _, _ => .bad
def gathIn (it : Ix) (tg : Tg) (t : Tx) (f : D → G → S → Res D) (vs : List Nat) : D → G → S → Res D := fun acc g s => (it g s).bind fun l s => (turns tg t f vs g l acc s).bind fun d s => .ok d { s with sg := unset s.sg vs }
def compG (d0 : D) (it : Ix) (tg : Tg) (t : Tx) (f : D → G → S → Res D) (vs : List Nat) : Ex := fun g s => (it g s).bind fun l s1 =>
  if vs.any (fun v => isOwn (s1.sg.getD v .no)) then .bad else
    (turns tg t f vs g l d0 s1).nox.bind fun d s2 => .ok d { s2 with sg := back s1.sg s2.sg vs }
/-- [e for tg in it if t] -/
def comp (it : Ix) (tg : Tg) (t : Tx) (e : Ex) (vs : List Nat) : Ex := compG (.lst []) it tg t (gathL e) vs
/-- [e for tg in it if t for ug in jt if u] -/
def comp2 (it : Ix) (tg : Tg) (t : Tx) (jt : Ix) (ug : Tg) (u : Tx) (e : Ex) (vs ws : List Nat) : Ex := compG (.lst []) it tg t (gathIn jt ug u (gathL e) ws) vs
def compD (it : Ix) (tg : Tg) (t : Tx) (k v : Ex) (vs : List Nat) : Ex := compG (.dic []) it tg t (gathD k v) vs

/-! ### calls -/
def callE (f : Nm) (a : Ax) : Ex := fun g s => (a g s).bind fun ds s => match g f ds s.h with
  | .bad => .bad
  | .ok d h => .ok d { s with h := h }
  | .exc x h => .exc x { s with h := h }
/-- the parameters in their order: places of what was evaluated, or defaults -/
def arrange (p : List (Sum Nat D)) (ds : List D) : Option (List D) := p.mapM fun q => match q with
  | .inl i => ds[i]?
  | .inr d => some d
/-- f(.., k = v, ..): n positional values, those of the keywords, put in order -/
def callK (f : Nm) (n : Nat) (a k : Ax) (p : List (Sum Nat D)) : Ex := fun g s => (a g s).bind fun xs s => (k g s).bind fun ys s => if xs.length = n then (match arrange p (xs ++ ys) with
  | none => .bad
  | some es => (match g f es s.h with
    | .bad => .bad
    | .ok d h => .ok d { s with h := h }
    | .exc x h => .exc x { s with h := h })) else .bad

/-! ### built-in functions -/
/-- built-in classes that are asked for -/
inductive Tn where
  | int | bool | str | tup | lst | dic
def isTy (t : Tn) (h : List Ob) : D → Option D
  | .non => some (.bl false)
  | .bl _ => some (.bl (match t with | .int => true | .bool => true | _ => false))
  | .int _ => some (.bl (match t with | .int => true | _ => false))
  | .str _ => some (.bl (match t with | .str => true | _ => false))
  | .rep _ => some (.bl (match t with | .str => true | _ => false))
  | .tup _ => some (.bl (match t with | .tup => true | _ => false))
  | .frt _ => some (.bl (match t with | .tup => true | _ => false))
  | .lst _ => some (.bl (match t with | .lst => true | _ => false))
  | .fro _ => some (.bl (match t with | .lst => true | _ => false))
  | .dic _ => some (.bl (match t with | .dic => true | _ => false))
  | .ref n => (match h[n]? with
    | some (.lst _) => some (.bl (match t with | .lst => true | _ => false))
    | some (.dic _) => some (.bl (match t with | .dic => true | _ => false))
    | some (.dit _) => some (.bl (match t with | .dic => true | _ => false))
    | none => none)
  | _ => none
/-- a text's length, at most; 0 at what has none -/
def wt : D → Nat
  | .non => 4
  | .bl _ => 5
  | .int _ => 2000
  | .str x => 10 * x.length + 2
  | .tup l => wtL l + 3
  | .lst l => wtL l + 3
  | _ => 0
where wtL : List D → Nat
  | [] => 0
  | x :: r => wt x + 2 + wtL r
/-- every int can be written -/
def ints1920 : D → Bool
  | .int i => fitI 1920 i
  | .tup l => all1920 l
  | .lst l => all1920 l
  | _ => true
where all1920 : List D → Bool
  | [] => true
  | x :: r => ints1920 x && all1920 r
def dRepr (d : D) : Option D := if plain d && ints1920 d && decide (wt d ≤ lim) then some (.rep d) else none
def bls? : List D → Option (List Bool)
  | [] => some []
  | .bl b :: r => (bls? r).map (b :: ·)
  | _ => none
def ints? : List D → Option (List Int)
  | [] => some []
  | .int b :: r => (ints? r).map (b :: ·)
  | _ => none
def dMax2 : D → D → Option D
  | .int i, .int j => some (.int (if j > i then j else i))
  | _, _ => none
def dMin2 : D → D → Option D
  | .int i, .int j => some (.int (if j < i then j else i))
  | _, _ => none
def dAll : D → Option D
  | .lst l => (bls? l).map fun b => .bl (b.all id)
  | _ => none
def dAny : D → Option D
  | .lst l => (bls? l).map fun b => .bl (b.any id)
  | _ => none
def dSum : D → Option D
  | .lst l => (ints? l).map fun b => .int b.sum
  | _ => none
def maxI : List Int → Option Int
  | [] => none
  | x :: r => some (r.foldl max x)
def minI : List Int → Option Int
  | [] => none
  | x :: r => some (r.foldl min x)
def dMax : D → Option D
  | .lst l => (match ints? l with | some b => (maxI b).map .int | none => none)
  | _ => none
def dMin : D → Option D
  | .lst l => (match ints? l with | some b => (minI b).map .int | none => none)
  | _ => none
def dInt : D → Option D
  | .int i => some (.int i)
  | .bl b => some (.int (if b then 1 else 0))
  | _ => none
def dAbs : D → Option D
  | .int i => some (.int (if i < 0 then -i else i))
  | _ => none
def dTup : D → Option D
  | .lst l => some (.tup l)
  | .fro l => some (.tup l)
  | .tup l => some (.tup l)
  | .frt l => some (.frt l)
  | _ => none
def dLst : D → Option D
  | .lst l => some (.lst l)
  | .tup l => some (.lst l)
  | .frt l => some (.lst l)
  | .fro l => some (.lst l)
  | _ => none

def dLzip : D → D → Option D
  | .lst l, .lst m => if pairOk (zipped l m) then some (.lst (zipped l m)) else none
  | .tup l, .tup m => if pairOk (zipped l m) then some (.lst (zipped l m)) else none
  | _, _ => none
/-- a number put in its place, if it is not there -/
def insD (k : Int) : List Int → List Int
  | [] => [k]
  | x :: r => if k < x then k :: x :: r else if k = x then x :: r else x :: insD k r
def sortD (l : List Int) : List Int := l.foldr insD []
def dSset : D → Option D
  | .lst l => (match ints? l with
    | some ns => if ns.length < 64 then some (.lst ((sortD ns).map .int)) else none
    | none => none)
  | _ => none
/-! sorted(xs), of data that are alike -/
mutual
/-- a datum as a row of signs -/
def tkD : D → List (Int ⊕ Nm)
  | .bl b => [.inl (if b = true then 1 else 0)]
  | .int n => [.inl n]
  | .str x => [.inr x]
  | .tup l => tkL l
  | .lst l => tkL l
  | _ => []
def tkL : List D → List (Int ⊕ Nm)
  | [] => [.inl 0]
  | x :: r => .inl 1 :: (tkD x ++ tkL r)
end
mutual
/-- can be compared, place by place -/
def alk : D → D → Bool
  | .non, y => (match y with | .non => true | _ => false)
  | .bl _, y => (match y with | .bl _ => true | _ => false)
  | .int _, y => (match y with | .int _ => true | _ => false)
  | .str _, y => (match y with | .str _ => true | _ => false)
  | .lst l, y => (match y with | .lst m => alkL l m | _ => false)
  | .tup l, y => (match y with | .tup m => alkL l m | _ => false)
  | _, _ => false
def alkL : List D → List D → Bool
  | [], _ => true
  | x :: l, m => (match m with | [] => true | y :: m => alk x y && alkL l m)
end
def tkLt : Int ⊕ Nm → Int ⊕ Nm → Bool
  | .inl a, .inl b => decide (a < b)
  | .inl _, .inr _ => true
  | .inr _, .inl _ => false
  | .inr a, .inr b => lexLt a b
def tksLt : List (Int ⊕ Nm) → List (Int ⊕ Nm) → Bool
  | [], [] => false
  | [], _ :: _ => true
  | _ :: _, [] => false
  | x :: r, y :: t => tkLt x y || (!tkLt y x && tksLt r t)
def ltD (x y : D) : Bool := tksLt (tkD x) (tkD y)
def insL (x : D) : List D → List D
  | [] => [x]
  | y :: r => if ltD y x then y :: insL x r else x :: y :: r
def srtD (l : List D) : List D := l.foldr insL []
def srtable (l : List D) : Bool := (l.all fun d => match d with | .tup (_ :: _) => true | _ => false) || l.all fun d => match d with | .non => false | .tup _ => false | _ => true
def canSort (l : List D) : Bool := l.all plain && (l.all fun x => l.all (alk x)) && srtable l
def dSorted : D → Option D
  | .lst l => if canSort l then some (.lst (srtD l)) else none
  | .tup l => if canSort l then some (.lst (srtD l)) else none
  | _ => none
def dRevL : D → Option D
  | .lst l => some (.lst l.reverse)
  | .fro l => some (.lst l.reverse)
  | _ => none
def seq? : D → Option (List D)
  | .lst l => some l
  | .tup l => some l
  | _ => none
def dCount (x y : D) : Option D := match seq? x with
  | some l => if plain y && l.all plain then some (.int (l.countP fun z => eqv z y)) else none
  | none => none
def dIndex (x y : D) : Option D := match seq? x with
  | some l => if plain y && l.all plain then (match findIx (fun z => eqv z y) l 0 with | some j => some (.int j) | none => none) else none
  | none => none

/-! ### refs within data -/
mutual
/-- no shared object from m on stands in it -/
def noR (m : Nat) : D → Bool
  | .ref n => Nat.blt n m
  | .tup l => noRL m l
  | .lst l => noRL m l
  | .fro l => noRL m l
  | .frt l => noRL m l
  | .dic l => noRK m l
  | .dit l => noRT m l
  | _ => true
def noRL (m : Nat) : List D → Bool
  | [] => true
  | x :: r => noR m x && noRL m r
def noRK (m : Nat) : List (K × D) → Bool
  | [] => true
  | (_, x) :: r => noR m x && noRK m r
def noRT (m : Nat) : List (List K × D) → Bool
  | [] => true
  | (_, x) :: r => noR m x && noRT m r
end
def noRO (m : Nat) : Ob → Bool
  | .dic l => noRK m l
  | .lst l => noRL m l
  | .dit l => noRT m l
/-- a shared object holds none -/
def okSt (s : S) (i : Nat) (b : Bool) : Bool := match s.sg[i]? with
  | some (.val (.ref _)) => b
  | _ => true
/-! ### statements -/
def pass : Bl := fun _ s => .nx s
def brk : Bl := fun _ s => .bk s
def cont : Bl := fun _ s => .ct s
def seq (a b : Bl) : Bl := fun g s => match a g s with
  | .nx s => b g s
  | f => f
def never : Bl := fun _ _ => .bad
def ret (e : Ex) : Bl := fun g s => match e g s with
  | .ok d s => .rt d s.h
  | .bad => .bad
  | .exc x h => .exc x h
def asg (tg : Tg) (e : Ex) : Bl := fun g s => match e g s with
  | .ok d s => (match tg d s with | some s => .nx s | none => .bad)
  | .bad => .bad
  | .exc x h => .exc x h
def ownable : D → Bool
  | .lst _ => true
  | .dic _ => true
  | .dit _ => true
  | _ => false
/-- a name takes what was just made -/
def take (i : Nat) (e : Ex) : Bl := fun g s => match e g s with
  | .ok d s => if i < s.sg.length then .nx { s with sg := s.sg.set i (if ownable d then .own d else .val d) } else .bad
  | .bad => .bad
  | .exc x h => .exc x h
/-- i, j, .. = a, b, ..: values, or what was just made (true) -/
def rowS : List (Bool × Ex) → G → S → Res (List Sl)
  | [], _, s => .ok [] s
  | (b, e) :: r, g, s => (e g s).bind fun d s => (rowS r g s).bind fun l s => .ok ((if b then .own d else .val d) :: l) s
def putAll : List Nat → List Sl → List Sl → Option (List Sl)
  | [], [], σ => some σ
  | i :: is, x :: xs, σ => if i < σ.length then putAll is xs (σ.set i x) else none
  | _, _, _ => none
def parS (is : List Nat) (es : List (Bool × Ex)) : Bl := fun g s => match rowS es g s with
  | .ok l s => (match putAll is l s.sg with | some σ => .nx { s with sg := σ } | none => .bad)
  | .bad => .bad
  | .exc x h => .exc x h
def exprS (e : Ex) : Bl := fun g s => match e g s with
  | .ok _ s => .nx s
  | .bad => .bad
  | .exc x h => .exc x h
def ifS (t : Tx) (a b : Bl) : Bl := fun g s => match t g s with
  | .ok c s => if c then a g s else b g s
  | .bad => .bad
  | .exc x h => .exc x h
def forL (tg : Tg) (b : Bl) (g : G) : List D → S → Fl
  | [], s => .nx s
  | d :: ds, s => match tg d s with
    | none => .bad
    | some s => match b g s with
      | .nx s => forL tg b g ds s
      | .ct s => forL tg b g ds s
      | .bk s => .nx s
      | f => f
def forS (it : Ix) (tg : Tg) (b : Bl) : Bl := fun g s => match it g s with
  | .ok l s => forL tg b g l s
  | .bad => .bad
  | .exc x h => .exc x h
def whileL (t : Tx) (b : Bl) (g : G) : Nat → S → Fl
  | 0, _ => .bad
  | n + 1, s => match t g s with
    | .ok true s => (match b g s with
      | .nx s => whileL t b g n s
      | .ct s => whileL t b g n s
      | .bk s => .nx s
      | f => f)
    | .ok false s => .nx s
    | .bad => .bad
    | .exc x h => .exc x h
def whileS (t : Tx) (b : Bl) : Bl := fun g s => whileL t b g 1000000 s

/-- an owned list, or one that is shared -/
def setOb (s : S) (n : Nat) (o : Ob) : S := { s with h := s.h.set n o }
def lstOf (s : S) (i : Nat) : Option (List D) := match s.sg[i]? with
  | some (.own (.lst l)) => some l
  | some (.val (.ref n)) => (match s.h[n]? with
    | some (.lst l) => some l
    | _ => none)
  | _ => none
/-- .. is changed -/
def putL (s : S) (i : Nat) (l : List D) : S := match s.sg[i]? with
  | some (.val (.ref n)) => setOb s n (.lst l)
  | _ => { s with sg := s.sg.set i (.own (.lst l)) }
/-- x.append(e), x.extend(e) -/
def appE (i : Nat) (e : Ex) : Ex := fun g s => if (lstOf s i).isSome then (e g s).bind fun d s1 => (match lstOf s1 i with
    | some l => if l.length < lim ∧ okSt s1 i (noR 0 d) = true then .ok .non (putL s1 i (l ++ [d])) else .bad
    | none => .bad) else .bad
def extE (i : Nat) (e : Ex) : Ex := fun g s => if (lstOf s i).isSome then (e g s).bind fun d s1 => (match lstOf s1 i with
    | some l => (match d with | .lst m => if l.length + m.length ≤ lim ∧ okSt s1 i (noRL 0 m) = true then .ok .non (putL s1 i (l ++ m)) else .bad | _ => .bad)
    | none => .bad) else .bad
/-- x.pop(), x.pop(e) -/
def popE (i : Nat) : Ex := fun _ s => match lstOf s i with
  | some l => (match l[l.length - 1]? with
    | some d => .ok d (putL s i l.dropLast)
    | none => .bad)
  | none => .bad
def popAtE (i : Nat) (e : Ex) : Ex := fun g s => if (lstOf s i).isSome then (e g s).bind fun k s1 => (match lstOf s1 i with
  | some l => (match k with
    | .int k => if smallI k then (match ixN l.length k with
      | some j => (match l[j]? with
        | some d => .ok d (putL s1 i (l.eraseIdx j))
        | none => .bad)
      | none => .bad) else .bad
    | _ => .bad)
  | none => .bad) else .bad
/-- d.setdefault(k, v) -/
def dicOf (s : S) (i : Nat) : Option (List (K × D)) := match s.sg[i]? with
  | some (.own (.dic l)) => some l
  | some (.val (.ref n)) => (match s.h[n]? with
    | some (.dic l) => some l
    | _ => none)
  | _ => none
def putDic (s : S) (i : Nat) (l : List (K × D)) : S := match s.sg[i]? with
  | some (.val (.ref n)) => setOb s n (.dic l)
  | _ => { s with sg := s.sg.set i (.own (.dic l)) }
def sdefE (i : Nat) (k v : Ex) : Ex := fun g s => if (dicOf s i).isSome then (k g s).bind fun x s => (v g s).bind fun y s => (match dicOf s i with
  | some l => (match key? x with
    | some k => (match dget l k with
      | some d => if l.length < lim then .ok d s else .bad
      | none => if l.length < lim ∧ okSt s i (noR 0 y) = true then .ok y (putDic s i (dput l k y)) else .bad)
    | none => .bad)
  | none => .bad) else .bad
/-- d[k] = v -/
def putD (d k v : D) : Option D := match d with
  | .lst l => (match k with
    | .int i => (match ixN l.length i with | some j => some (.lst (l.set j v)) | none => none)
    | _ => none)
  | .dic l => (match key? k with | some k => if l.length < lim then some (.dic (dput l k v)) else none | none => none)
  | .dit l => (match keys? k with | some k => if l.length < lim then some (.dit (dput l k v)) else none | none => none)
  | _ => none
def putO (o : Ob) (k v : D) : Option Ob := match o with
  | .lst l => (match k with
    | .int i => (match ixN l.length i with | some j => some (.lst (l.set j v)) | none => none)
    | _ => none)
  | .dic l => (match key? k with | some k => if l.length < lim then some (.dic (dput l k v)) else none | none => none)
  | .dit l => (match keys? k with | some k => if l.length < lim then some (.dit (dput l k v)) else none | none => none)
def put (s : S) (i : Nat) (k v : D) : Option S := match s.sg[i]? with
  | some (.own d) => (match putD d k v with | some d => some { s with sg := s.sg.set i (.own d) } | none => none)
  | some (.val (.ref n)) => (match s.h[n]? with
    | some o => if noR 0 v then (match putO o k v with | some o => some (setOb s n o) | none => none) else none
    | none => none)
  | _ => none
/-- x[k] = e: e, then k -/
def putS (i : Nat) (k e : Ex) : Bl := fun g s => match e g s with
  | .ok v s => (match evP i s with
    | .ok _ s => (match k g s with
      | .ok k s => (match put s i k v with | some s => .nx s | none => .bad)
      | .bad => .bad
      | .exc x h => .exc x h)
    | _ => .bad)
  | .bad => .bad
  | .exc x h => .exc x h
/-- x op= e, an int -/
def augS (f : D → D → Option D) (i : Nat) (e : Ex) : Bl := fun g s => match rdP i s with
  | some x => (match e g s with
    | .ok y s => (match f x y with
      | some r => if i < s.sg.length then .nx { s with sg := s.sg.set i (.val r) } else .bad
      | none => .bad)
    | .bad => .bad
    | .exc x h => .exc x h)
  | none => .bad
/-- x += e, ints -/
def augI (f : Int → Int → Int) (i : Nat) (e : Ex) : Bl := fun g s => match rdP i s with
  | some (.int x) => (e g s).thn fun d s => (match d with
    | .int y => if i < s.sg.length then .nx { s with sg := s.sg.set i (.val (.int (f x y))) } else .bad
    | _ => .bad)
  | _ => .bad
/-- raise X(..) -/
def raiseS (c : Nm) (ns : List Nm) (a : Ax) : Bl := fun g s => match a g s with
  | .ok ds s => if ds.length = ns.length then .exc ⟨c, ns.zip ds⟩ s else .bad
  | .bad => .bad
  | .exc x h => .exc x h
/-- {} -/
def newK : Ex := fun _ s => .ok (.dic []) s
def newT : Ex := fun _ s => .ok (.dit []) s
/-- {k: v, ..} -/
def pairsE : List (Ex × Ex) → G → S → Res (List (K × D))
  | [], _, s => .ok [] s
  | (k, v) :: r, g, s => (k g s).bind fun x s => (v g s).bind fun y s => (pairsE r g s).bind fun m s => match key? x with
    | some k => .ok ((k, y) :: m) s
    | none => .bad
def dicE (ps : List (Ex × Ex)) : Ex := fun g s => (pairsE ps g s).bind fun m s => .ok (.dic (m.foldl (fun acc p => dput acc p.1 p.2) [])) s
/-- what was just made, shared -/
def refE (e : Ex) : Ex := fun g s => (e g s).bind fun d s => match d with
  | .dic l => if noRK 0 l then .ok (.ref s.h.length) { s with h := s.h ++ [.dic l] } else .bad
  | .lst l => if noRL 0 l then .ok (.ref s.h.length) { s with h := s.h ++ [.lst l] } else .bad
  | .dit l => if noRT 0 l then .ok (.ref s.h.length) { s with h := s.h ++ [.dit l] } else .bad
  | _ => .bad

/-! ### defs -/
structure Fn where
  np : Nat
  ns : Nat
  body : Bl
/-- x.count(y), x.index(y) (b), x a list, or a tuple of texts -/
def sqK : D → Nat
  | .lst _ => 1
  | .tup l => if sT l then 2 else 0
  | _ => 0
def cntE (b : Bool) (a : Op) (c : Ex) : Ex := fun g s => (a.ev g s).bind fun x s => match a.rd x s with
  | some d0 => if sqK d0 = 0 then .bad else (aCons c aNil g s).bind fun ys s => (match ys with
    | [y] => (match a.rd x s with
      | some d => if sqK d = sqK d0 then (match (if b then dIndex d y else dCount d y) with | some r => .ok r s | none => .bad) else .bad
      | none => .bad)
    | _ => .bad)
  | none => .bad
def Fl.out : Fl → CR
  | .nx s => .ok .non s.h
  | .rt d h => .ok d h
  | .exc x s => .exc x s.h
  | _ => .bad
def start (F : Fn) (ds : List D) : List Sl := ds.map .val ++ List.replicate (F.ns - F.np) .no
/-- objects that were shared meanwhile, and that nobody knows any more, go -/
def CR.gc (n : Nat) : CR → CR
  | .ok d h => if h.length ≤ n then .ok d h else if noR n d then .ok d (h.take n) else .ok d h
  | c => c
def runF (F : Fn) (g : G) (ds : List D) (h : List Ob) : CR := if ds.length = F.np then ((F.body g ⟨start F ds, h⟩).out).gc h.length else .bad
def callN (tab : Nm → Option Fn) : Nat → G
  | 0 => fun _ _ _ => .bad
  | k + 1 => fun f ds h => match tab f with
    | some F => runF F (callN tab k) ds h
    | none => .bad
end Cy

set_option Elab.async false
set_option linter.all false
set_option maxRecDepth 100000
/-! Cy over the hand layer: how plain data lies in the abstract heap. -/
namespace Cy
open L2 PySem PySem.Spec PyProof.Rows

abbrev St := L2.St
def st (x : Nm) : Str := ⟨x.toArray⟩
theorem st_inj {x y : Nm} (h : st x = st y) : x = y := by
  have e : x.toArray = y.toArray := congrArg Str.cps h
  simpa using e
theorem st_length (x : Nm) : (st x).length = x.length := by simp [st, Str.length]
theorem st_cps (x : Nm) : (st x).cps.toList = x := by simp [st]
def kk : K → Key
  | .i n => .inl n
  | .s x => .inr (st x)
theorem kk_inj {a b : K} (h : kk a = kk b) : a = b := by
  cases a <;> cases b <;> simp only [kk, Sum.inl.injEq, Sum.inr.injEq, reduceCtorEq] at h
  · rw [h]
  · rw [st_inj h]

/-! ### plain data as the library has it -/
mutual
def py : D → PyData
  | .non => .none
  | .bl b => .bool b
  | .int i => .int i
  | .str s => .str (st s)
  | .tup l => .tuple (pyL l)
  | .lst l => .list (pyL l)
  | _ => .none
def pyL : List D → List PyData
  | [] => []
  | x :: r => py x :: pyL r
end
/-- which shared objects stand where; which lists and dicts are not changed any more -/
structure Wd where
  ref : Nat → Option Addr
  frz : Addr → Prop

abbrev Fg := PySem.W.Frag
/-- a tuple; one of texts alone has no dict of its own, and its object is known -/
def TupAt (H : Hp) (a : Addr) (vs : List V) (ds : List D) : Prop := (sT ds = true ∧ ∃ o : Obj, H a = some (.frz o (.tup vs)) ∧ o.cls = .type "tuple" ∧ o.dict = none) ∨ (sT ds = false ∧ H a = some (.tup vs))
theorem TupAt.rd {H : Hp} {a : Addr} {vs : List V} {ds : List D} (h : TupAt H a vs ds) : Rd H a (.tup vs) := h.elim (fun ⟨_, o, e, _⟩ => .inr ⟨o, e⟩) fun h => .inl h.2
theorem TupAt.sq {K : Fg} {H : Hp} {a : Addr} {vs : List V} {ds : List D} (h : TupAt H a vs ds) : SqT K H a vs := .inl h.rd
theorem TupAt.keep {H H' : Hp} {a : Addr} {vs : List V} {ds : List D} (h : TupAt H a vs ds) (f : ∀ xs, H a = some (.tup xs) → H' a = some (.tup xs)) (g : ∀ o u, H a = some (.frz o u) → H' a = some (.frz o u)) : TupAt H' a vs ds :=
  h.elim (fun ⟨z, o, e, c⟩ => .inl ⟨z, o, g o _ e, c⟩) fun h => .inr ⟨h.1, f _ h.2⟩
mutual
inductive Den (F : Fg) (W : Wd) (H : Hp) : V → D → Prop
  | non : Den F W H .non .non
  | bl (b : Bool) : Den F W H (.bl b) (.bl b)
  | int (i : Int) : Den F W H (.int i) (.int i)
  | str (x : Nm) : Den F W H (.str (st x)) (.str x)
  | rep (d : D) : Den F W H (.str (py d).shown) (.rep d)
  | tup {a : Addr} {vs : List V} {ds : List D} : TupAt H a vs ds → DenL F W H vs ds → Den F W H (.ref a) (.tup ds)
  | lst {a : Addr} {vs : List V} {ds : List D} : W.frz a → H a = some (.lst vs) → DenL F W H vs ds → Den F W H (.ref a) (.lst ds)
  | fro {a : Addr} {vs : List V} {ds : List D} : (∀ H' : Hp, (∀ o u, H a = some (.frz o u) → H' a = some (.frz o u)) → SqL F H' a vs) → DenL F W H vs ds → Den F W H (.ref a) (.fro ds)
  | frt {a : Addr} {vs : List V} {ds : List D} : (∀ H' : Hp, (∀ o u, H a = some (.frz o u) → H' a = some (.frz o u)) → SqT F H' a vs) → DenL F W H vs ds → Den F W H (.ref a) (.frt ds)
  | dic {a : Addr} {kvs : List (Key × V)} {l : List (K × D)} : W.frz a → Rd H a (.dK kvs) → DenK F W H kvs l → Den F W H (.ref a) (.dic l)
  | dit {a : Addr} {kvs : List (List Key × V)} {l : List (List K × D)} : W.frz a → Rd H a (.dT kvs) → DenT F W H kvs l → Den F W H (.ref a) (.dit l)
  | ref {n : Nat} {a : Addr} : W.ref n = some a → Den F W H (.ref a) (.ref n)
inductive DenL (F : Fg) (W : Wd) (H : Hp) : List V → List D → Prop
  | nil : DenL F W H [] []
  | cons {v : V} {vs : List V} {d : D} {ds : List D} : Den F W H v d → DenL F W H vs ds → DenL F W H (v :: vs) (d :: ds)
inductive DenK (F : Fg) (W : Wd) (H : Hp) : List (Key × V) → List (K × D) → Prop
  | nil : DenK F W H [] []
  | cons {k : K} {v : V} {vs : List (Key × V)} {d : D} {ds : List (K × D)} : Den F W H v d → DenK F W H vs ds → DenK F W H ((kk k, v) :: vs) ((k, d) :: ds)
inductive DenT (F : Fg) (W : Wd) (H : Hp) : List (List Key × V) → List (List K × D) → Prop
  | nil : DenT F W H [] []
  | cons {k : List K} {v : V} {vs : List (List Key × V)} {d : D} {ds : List (List K × D)} : Den F W H v d → DenT F W H vs ds → DenT F W H ((k.map kk, v) :: vs) ((k, d) :: ds)
end

/-- what data leans on stands as it stood -/
structure Stab (W : Wd) (H : Hp) (W' : Wd) (H' : Hp) : Prop where
  frz : ∀ a, W.frz a → W'.frz a ∧ (∀ xs, H a = some (.lst xs) → H' a = some (.lst xs)) ∧ (∀ k, Rd H a (.dK k) → Rd H' a (.dK k)) ∧ ∀ k, Rd H a (.dT k) → Rd H' a (.dT k)
  tup : ∀ a xs, H a = some (.tup xs) → H' a = some (.tup xs)
  fz : ∀ a o u, H a = some (.frz o u) → H' a = some (.frz o u)
  ref : ∀ n a, W.ref n = some a → W'.ref n = some a

theorem Stab.refl {W : Wd} {H : Hp} : Stab W H W H := ⟨fun _ h => ⟨h, fun _ h => h, fun _ h => h, fun _ h => h⟩, fun _ _ h => h, fun _ _ _ h => h, fun _ _ h => h⟩
theorem Stab.trans {W W' W2 : Wd} {H H' H2 : Hp} (a : Stab W H W' H') (b : Stab W' H' W2 H2) : Stab W H W2 H2 :=
  ⟨fun c h => let ⟨x, y, z, u⟩ := a.frz c h; let ⟨x', y', z', u'⟩ := b.frz c x; ⟨x', fun _ q => y' _ (y _ q), fun _ q => z' _ (z _ q), fun _ q => u' _ (u _ q)⟩, fun c xs h => b.tup c xs (a.tup c xs h), fun c o u h => b.fz c o u (a.fz c o u h), fun n c h => b.ref n c (a.ref n c h)⟩
section
variable {F : Fg} {W W' : Wd} {H H' : Hp}
mutual
theorem Den.stab (t : Stab W H W' H') : ∀ {v : V} {d : D}, Den F W H v d → Den F W' H' v d
  | _, _, .non => .non
  | _, _, .bl b => .bl b
  | _, _, .int i => .int i
  | _, _, .str x => .str x
  | _, _, .rep d => .rep d
  | _, _, .tup h r => .tup (h.keep (fun xs e => t.tup _ xs e) fun o u e => t.fz _ o u e) (DenL.stab t r)
  | _, _, .lst z h r => .lst (t.frz _ z).1 ((t.frz _ z).2.1 _ h) (DenL.stab t r)
  | _, _, .fro h r => .fro (fun H2 k => h H2 fun o u e => k o u (t.fz _ _ _ e)) (DenL.stab t r)
  | _, _, .frt h r => .frt (fun H2 k => h H2 fun o u e => k o u (t.fz _ _ _ e)) (DenL.stab t r)
  | _, _, .dic z h r => .dic (t.frz _ z).1 ((t.frz _ z).2.2.1 _ h) (DenK.stab t r)
  | _, _, .dit z h r => .dit (t.frz _ z).1 ((t.frz _ z).2.2.2 _ h) (DenT.stab t r)
  | _, _, .ref h => .ref (t.ref _ _ h)
theorem DenL.stab (t : Stab W H W' H') : ∀ {v : List V} {d : List D}, DenL F W H v d → DenL F W' H' v d
  | _, _, .nil => .nil
  | _, _, .cons h r => .cons (Den.stab t h) (DenL.stab t r)
theorem DenK.stab (t : Stab W H W' H') : ∀ {v : List (Key × V)} {d : List (K × D)}, DenK F W H v d → DenK F W' H' v d
  | _, _, .nil => .nil
  | _, _, .cons h r => .cons (Den.stab t h) (DenK.stab t r)
theorem DenT.stab (t : Stab W H W' H') : ∀ {v : List (List Key × V)} {d : List (List K × D)}, DenT F W H v d → DenT F W' H' v d
  | _, _, .nil => .nil
  | _, _, .cons h r => .cons (Den.stab t h) (DenT.stab t r)
end

theorem DenL.length : ∀ {v : List V} {d : List D}, DenL F W H v d → v.length = d.length
  | _, _, .nil => rfl
  | _, _, .cons _ r => congrArg (· + 1) (DenL.length r)
theorem DenL.get : ∀ {v : List V} {d : List D} {i : Nat} {x : D}, DenL F W H v d → d[i]? = some x → ∃ y, v[i]? = some y ∧ Den F W H y x
  | _, _, _, _, .nil, e => by simp at e
  | _, _, 0, _, .cons h _, e => by simp at e; subst e; exact ⟨_, rfl, h⟩
  | _, _, i + 1, _, .cons _ r, e => by
    obtain ⟨y, h1, h2⟩ := DenL.get (i := i) r (by simpa using e)
    exact ⟨y, by simpa using h1, h2⟩
theorem DenL.getV : ∀ {v : List V} {d : List D} {i : Nat} {y : V}, DenL F W H v d → v[i]? = some y → ∃ x, d[i]? = some x ∧ Den F W H y x
  | _, _, _, _, .nil, e => by simp at e
  | _, _, 0, _, .cons h _, e => by simp at e; subst e; exact ⟨_, rfl, h⟩
  | _, _, i + 1, _, .cons _ r, e => by
    obtain ⟨y, h1, h2⟩ := DenL.getV (i := i) r (by simpa using e)
    exact ⟨y, by simpa using h1, h2⟩
theorem DenL.append : ∀ {v u : List V} {d e : List D}, DenL F W H v d → DenL F W H u e → DenL F W H (v ++ u) (d ++ e)
  | _, _, _, _, .nil, s => s
  | _, _, _, _, .cons h r, s => .cons h (DenL.append r s)
theorem DenL.take : ∀ {v : List V} {d : List D} (n : Nat), DenL F W H v d → DenL F W H (v.take n) (d.take n)
  | _, _, 0, _ => .nil
  | _, _, _ + 1, .nil => .nil
  | _, _, n + 1, .cons h r => .cons h (DenL.take n r)
theorem DenL.drop : ∀ {v : List V} {d : List D} (n : Nat), DenL F W H v d → DenL F W H (v.drop n) (d.drop n)
  | _, _, 0, h => h
  | _, _, _ + 1, .nil => .nil
  | _, _, n + 1, .cons _ r => DenL.drop n r
theorem DenL.reverse {v : List V} {d : List D} (h : DenL F W H v d) : DenL F W H v.reverse d.reverse := by
  induction d generalizing v with
  | nil => cases h; exact .nil
  | cons x d ih =>
    cases h with
    | cons h r =>
      rw [List.reverse_cons, List.reverse_cons]
      exact DenL.append (ih r) (.cons h .nil)
theorem DenL.set {x : D} {y : V} (g : Den F W H y x) : ∀ {v : List V} {d : List D} (n : Nat), DenL F W H v d → DenL F W H (v.set n y) (d.set n x)
  | _, _, _, .nil => .nil
  | _, _, 0, .cons _ r => .cons g r
  | _, _, n + 1, .cons h r => .cons h (DenL.set g n r)
theorem DenL.eraseIdx : ∀ {v : List V} {d : List D} (n : Nat), DenL F W H v d → DenL F W H (v.eraseIdx n) (d.eraseIdx n)
  | _, _, _, .nil => .nil
  | _, _, 0, .cons _ r => r
  | _, _, n + 1, .cons h r => .cons h (DenL.eraseIdx n r)
theorem DenL.flatRep {v : List V} {d : List D} (h : DenL F W H v d) : ∀ n : Nat, DenL F W H (List.replicate n v).flatten (List.replicate n d).flatten
  | 0 => .nil
  | n + 1 => by
    rw [List.replicate_succ, List.replicate_succ, List.flatten_cons, List.flatten_cons]
    exact DenL.append h (DenL.flatRep h n)
theorem DenK.length : ∀ {v : List (Key × V)} {d : List (K × D)}, DenK F W H v d → v.length = d.length
  | _, _, .nil => rfl
  | _, _, .cons _ r => congrArg (· + 1) (DenK.length r)
theorem DenT.length : ∀ {v : List (List Key × V)} {d : List (List K × D)}, DenT F W H v d → v.length = d.length
  | _, _, .nil => rfl
  | _, _, .cons _ r => congrArg (· + 1) (DenT.length r)
end

/-- an own list or dict at a -/
def OwnOb (F : Fg) (W : Wd) (H : Hp) (a : Addr) : D → Prop
  | .lst l => ∃ vs, H a = some (.lst vs) ∧ DenL F W H vs l
  | .dic l => ∃ vs, H a = some (.dK vs) ∧ DenK F W H vs l
  | .dit l => ∃ vs, H a = some (.dT vs) ∧ DenT F W H vs l
  | _ => False
def obD : Ob → D
  | .dic l => .dic l
  | .lst l => .lst l
  | .dit l => .dit l
/-- a list or dict, tracked -/
def LD : Option HO → Prop
  | some (.lst _) => True
  | some (.dK _) => True
  | some (.dT _) => True
  | _ => False
/-- .. or a dict that is locked -/
def LL : Option HO → Prop
  | some (.lst _) => True
  | some (.dK _) => True
  | some (.dT _) => True
  | some (.frz _ (.dK _)) => True
  | some (.frz _ (.dT _)) => True
  | _ => False
theorem LD.ll {o : Option HO} (h : LD o) : LL o := by
  unfold LD at h
  unfold LL
  split at h <;> first | trivial | exact h.elim
theorem keep_frz {H H' : Hp} {a : Addr} (e : H' a = H a) : (∀ xs, H a = some (.lst xs) → H' a = some (.lst xs)) ∧ (∀ k, Rd H a (.dK k) → Rd H' a (.dK k)) ∧ ∀ k, Rd H a (.dT k) → Rd H' a (.dT k) :=
  ⟨fun _ h => e.trans h, fun _ h => h.elim (fun h => .inl (e.trans h)) fun ⟨o, h⟩ => .inr ⟨o, e.trans h⟩, fun _ h => h.elim (fun h => .inl (e.trans h)) fun ⟨o, h⟩ => .inr ⟨o, e.trans h⟩⟩
theorem OwnOb.ld {F : Fg} {W : Wd} {H : Hp} {a : Addr} {d : D} (h : OwnOb F W H a d) : LD (H a) := by
  cases d <;> simp only [OwnOb] at h
  · obtain ⟨vs, e, _⟩ := h; rw [e]; trivial
  · obtain ⟨vs, e, _⟩ := h; rw [e]; trivial
  · obtain ⟨vs, e, _⟩ := h; rw [e]; trivial
theorem OwnOb.stab {F : Fg} {W W' : Wd} {H H' : Hp} {a : Addr} {d : D} (h : OwnOb F W H a d) (t : Stab W H W' H') (e : H' a = H a) : OwnOb F W' H' a d := by
  cases d <;> simp only [OwnOb] at h ⊢
  · obtain ⟨vs, q, r⟩ := h; exact ⟨vs, e.trans q, r.stab t⟩
  · obtain ⟨vs, q, r⟩ := h; exact ⟨vs, e.trans q, r.stab t⟩
  · obtain ⟨vs, q, r⟩ := h; exact ⟨vs, e.trans q, r.stab t⟩

/-- the shared objects and what is frozen -/
structure HRel (F : Fg) (W : Wd) (h : List Ob) (H : Hp) : Prop where
  frz : ∀ a, W.frz a → LL (H a)
  refs : ∀ (n : Nat) (a : Addr), W.ref n = some a → ¬ W.frz a ∧ ∃ o, h[n]? = some o ∧ OwnOb F W H a (obD o)
  all : ∀ (n : Nat) (o : Ob), h[n]? = some o → ∃ a, W.ref n = some a
  inj : ∀ n m a, W.ref n = some a → W.ref m = some a → n = m
  nor : ∀ (n : Nat) (o : Ob), h[n]? = some o → noRO 0 o = true

def OwnAt (s : S) (σ : St) (b : Addr) : Prop := ∃ (i : Nat) (d : D), s.sg[i]? = some (.own d) ∧ σ[i]? = some (some (.ref b))

structure Rel (F : Fg) (W : Wd) (s : S) (σ : St) (H : Hp) : Prop where
  len : s.sg.length = σ.length
  val : ∀ (i : Nat) (d : D), s.sg[i]? = some (.val d) → ∃ v, σ[i]? = some (some v) ∧ Den F W H v d
  own : ∀ (i : Nat) (d : D), s.sg[i]? = some (.own d) → ∃ a, σ[i]? = some (some (.ref a)) ∧ OwnOb F W H a d ∧ ¬ W.frz a ∧ ∀ n, W.ref n ≠ some a
  sep : ∀ (i j : Nat) (d e : D) (a : Addr), s.sg[i]? = some (.own d) → s.sg[j]? = some (.own e) → σ[i]? = some (some (.ref a)) → σ[j]? = some (some (.ref a)) → i = j
  hp : HRel F W s.h H

/-- it stands as it stood, or is a frozen dict that was locked -/
def Kept (W : Wd) (H' : Hp) (b : Addr) (o : HO) : Prop := H' b = some o ∨ (W.frz b ∧ ((∃ k, o = .dK k) ∨ ∃ k, o = .dT k) ∧ ∃ od, H' b = some (.frz od o))
theorem Kept.same {W : Wd} {H' : Hp} {b : Addr} {o : HO} (k : Kept W H' b o) (n : ¬ W.frz b) : H' b = some o := k.resolve_right fun z => n z.1
theorem Kept.upd {W : Wd} {H' : Hp} {a b : Addr} {o u : HO} (k : Kept W H' b o) (n : b ≠ a) : Kept W (upd H' a u) b o := k.elim (fun h => .inl (by rw [upd_ne n]; exact h)) fun ⟨x, y, od, h⟩ => .inr ⟨x, y, od, by rw [upd_ne n]; exact h⟩
/-- from one moment to a later one: what a caller, and what waits, can count on -/
structure Ext (W : Wd) (s : S) (σ : St) (H : Hp) (W' : Wd) (s' : S) (σ' : St) (H' : Hp) : Prop where
  ref : ∀ n a, W.ref n = some a → W'.ref n = some a
  frz : ∀ a, W.frz a → W'.frz a
  keep : ∀ b o, H b = some o → ¬ OwnAt s σ b → (∀ n, W.ref n ≠ some b) → Kept W H' b o ∧ (W'.frz b → W.frz b) ∧ ∀ n, W'.ref n ≠ some b
  own : ∀ b, H b ≠ none → OwnAt s' σ' b → OwnAt s σ b
  trk : ∀ b, H' b = none → H b = none

section
variable {F : Fg} {W W' W1 W2 : Wd} {s s' s1 s2 : S} {σ σ' σ1 σ2 : St} {H H' H1 H2 : Hp}
theorem Rel.ownLD (r : Rel F W s σ H) {b : Addr} (h : OwnAt s σ b) : LD (H b) ∧ ¬ W.frz b ∧ ∀ n, W.ref n ≠ some b := by
  obtain ⟨i, d, h1, h2⟩ := h
  obtain ⟨a, e, o, nf, nr⟩ := r.own i d h1
  rw [h2] at e
  cases e
  exact ⟨o.ld, nf, nr⟩
theorem HRel.refLD (r : HRel F W s.h H) {n : Nat} {b : Addr} (h : W.ref n = some b) : LD (H b) ∧ ¬ W.frz b := by
  obtain ⟨nf, o, _, q⟩ := r.refs n b h
  exact ⟨q.ld, nf⟩
theorem Ext.refl : Ext W s σ H W s σ H := ⟨fun _ _ h => h, fun _ h => h, fun _ _ h _ n => ⟨.inl h, fun z => z, n⟩, fun _ _ h => h, fun _ h => h⟩
theorem Ext.trans (a : Ext W s σ H W1 s1 σ1 H1) (b : Ext W1 s1 σ1 H1 W2 s2 σ2 H2) : Ext W s σ H W2 s2 σ2 H2 where
  ref := fun n c h => b.ref n c (a.ref n c h)
  frz := fun c h => b.frz c (a.frz c h)
  keep := fun c o h no nr => by
    obtain ⟨h1, f1, r1⟩ := a.keep c o h no nr
    have no1 := fun z => no (a.own c (by rw [h]; exact Option.some_ne_none _) z)
    rcases h1 with h1 | ⟨fz, kd, od, h1⟩
    · obtain ⟨h2, f2, r2⟩ := b.keep c o h1 no1 r1
      refine ⟨?_, fun z => f1 (f2 z), r2⟩
      rcases h2 with h2 | ⟨fz, kd, od, h2⟩
      · exact .inl h2
      · exact .inr ⟨f1 fz, kd, od, h2⟩
    · obtain ⟨h2, f2, r2⟩ := b.keep c _ h1 no1 r1
      refine ⟨?_, fun z => f1 (f2 z), r2⟩
      rcases h2 with h2 | ⟨_, kd2, _⟩
      · exact .inr ⟨fz, kd, od, h2⟩
      · rcases kd2 with ⟨_, z⟩ | ⟨_, z⟩ <;> cases z
  own := fun c h z => a.own c h (b.own c (fun e => h (a.trk c e)) z)
  trk := fun c h => a.trk c (b.trk c h)
theorem Ext.stab (r : Rel F W s σ H) (e : Ext W s σ H W' s' σ' H') : Stab W H W' H' := by
  have nown : ∀ b o, H b = some o → ¬ LD (some o) → ¬ OwnAt s σ b := fun b o h n z => n (h ▸ (r.ownLD z).1)
  have nref : ∀ b o, H b = some o → ¬ LD (some o) → ∀ n, W.ref n ≠ some b := fun b o h n m z => n (h ▸ (r.hp.refLD z).1)
  refine ⟨fun a h => ⟨e.frz a h, ?_⟩, fun a xs h => ?_, fun a o u h => ?_, e.ref⟩
  · cases q : H a with
    | none => have := r.hp.frz a h; rw [q] at this; exact this.elim
    | some o =>
      rw [← q]
      rcases (e.keep a o q (fun z => (r.ownLD z).2.1 h) fun n z => (r.hp.refLD z).2 h).1 with z | ⟨_, kd, od, z⟩
      · exact keep_frz (z.trans q.symm)
      · refine ⟨fun xs hx => ?_, fun k hk => ?_, fun k hk => ?_⟩
        · rw [q] at hx; cases hx; rcases kd with ⟨_, y⟩ | ⟨_, y⟩ <;> cases y
        · rcases hk with hk | ⟨o', hk⟩
          · rw [q] at hk; cases hk; exact .inr ⟨od, z⟩
          · rw [q] at hk; cases hk; rcases kd with ⟨_, y⟩ | ⟨_, y⟩ <;> cases y
        · rcases hk with hk | ⟨o', hk⟩
          · rw [q] at hk; cases hk; exact .inr ⟨od, z⟩
          · rw [q] at hk; cases hk; rcases kd with ⟨_, y⟩ | ⟨_, y⟩ <;> cases y
  · rcases (e.keep a _ h (nown a _ h fun z => z) (nref a _ h fun z => z)).1 with z | ⟨_, kd, _⟩
    · exact z
    · rcases kd with ⟨_, y⟩ | ⟨_, y⟩ <;> cases y
  · rcases (e.keep a _ h (nown a _ h fun z => z) (nref a _ h fun z => z)).1 with z | ⟨_, kd, _⟩
    · exact z
    · rcases kd with ⟨_, y⟩ | ⟨_, y⟩ <;> cases y
theorem Den.ext {v : V} {d : D} (h : Den F W H v d) (r : Rel F W s σ H) (e : Ext W s σ H W' s' σ' H') : Den F W' H' v d := h.stab (e.stab r)
theorem DenL.ext {v : List V} {d : List D} (h : DenL F W H v d) (r : Rel F W s σ H) (e : Ext W s σ H W' s' σ' H') : DenL F W' H' v d := h.stab (e.stab r)

/-- a new object is laid -/
theorem Rel.stab_new (r : Rel F W s σ H) {p : Addr} {o : HO} (hp : H p = none) : Stab W H W (upd H p o) :=
  ⟨fun a h => ⟨h, keep_frz (upd_ne fun e => by have := r.hp.frz a h; rw [e, hp] at this; exact this)⟩, fun a xs h => by rw [upd_ne (ne_of_none h hp)]; exact h, fun a ob u h => by rw [upd_ne (ne_of_none h hp)]; exact h, fun _ _ h => h⟩
theorem OwnOb.new {a p : Addr} {o : HO} {d : D} (h : OwnOb F W H a d) (t : Stab W H W (upd H p o)) (hp : H p = none) : OwnOb F W (upd H p o) a d :=
  h.stab t (upd_ne fun e => by have := h.ld; rw [e, hp] at this; exact this)
theorem HRel.new (r : HRel F W s.h H) {p : Addr} {o : HO} (t : Stab W H W (upd H p o)) (hp : H p = none) : HRel F W s.h (upd H p o) :=
  ⟨fun a h => by rw [upd_ne fun e => by have := r.frz a h; rw [e, hp] at this; exact this]; exact r.frz a h, fun n a h => let ⟨nf, ob, e, q⟩ := r.refs n a h; ⟨nf, ob, e, q.new t hp⟩, r.all, r.inj, r.nor⟩
theorem Rel.new (r : Rel F W s σ H) {p : Addr} {o : HO} (hp : H p = none) : Rel F W s σ (upd H p o) := by
  have t := r.stab_new (o := o) hp
  refine ⟨r.len, fun i d h => ?_, fun i d h => ?_, r.sep, r.hp.new t hp⟩
  · obtain ⟨v, e, q⟩ := r.val i d h
    exact ⟨v, e, q.stab t⟩
  · obtain ⟨a, e, q, nf, nr⟩ := r.own i d h
    exact ⟨a, e, q.new t hp, nf, nr⟩
theorem Ext.new {p : Addr} {o : HO} (hp : H p = none) : Ext W s σ H W s σ (upd H p o) :=
  ⟨fun _ _ h => h, fun _ h => h, fun b ob h _ n => ⟨.inl (by rw [upd_ne (ne_of_none h hp)]; exact h), fun z => z, n⟩, fun _ _ h => h, fun b h => by
    by_cases e : b = p
    · rw [e]; exact hp
    · rw [upd_ne e] at h; exact h⟩
theorem Rel.fresh_nfrz (r : Rel F W s σ H) {p : Addr} (hp : H p = none) : ¬ W.frz p := fun z => by have := r.hp.frz p z; rw [hp] at this; exact this
theorem Rel.fresh_nref (r : Rel F W s σ H) {p : Addr} (hp : H p = none) : ∀ n, W.ref n ≠ some p := fun n z => by have := (r.hp.refLD z).1; rw [hp] at this; exact this
theorem Rel.fresh_nown (r : Rel F W s σ H) {p : Addr} (hp : H p = none) : ¬ OwnAt s σ p := fun z => by have := (r.ownLD z).1; rw [hp] at this; exact this

/-! ### freezing -/
def Wd.fr (W : Wd) (a : Addr) : Wd := { W with frz := fun b => W.frz b ∨ b = a }
theorem Stab.fr {a : Addr} : Stab W H (W.fr a) H := ⟨fun _ h => ⟨.inl h, keep_frz rfl⟩, fun _ _ h => h, fun _ _ _ h => h, fun _ _ h => h⟩
theorem OwnOb.fr {a b : Addr} {d : D} (h : OwnOb F W H a d) : OwnOb F (W.fr b) H a d := h.stab Stab.fr rfl
theorem OwnOb.den {a : Addr} {d : D} (h : OwnOb F W H a d) (z : W.frz a) : Den F W H (.ref a) d := by
  cases d <;> simp only [OwnOb] at h
  · obtain ⟨vs, e, r⟩ := h; exact .lst z e r
  · obtain ⟨vs, e, r⟩ := h; exact .dic z (.inl e) r
  · obtain ⟨vs, e, r⟩ := h; exact .dit z (.inl e) r
/-- an object that nobody holds is frozen -/
theorem Rel.freeze (r : Rel F W s σ H) {a : Addr} (ld : LL (H a)) (no : ¬ OwnAt s σ a) (nr : ∀ n, W.ref n ≠ some a) : Rel F (W.fr a) s σ H := by
  refine ⟨r.len, fun i d h => ?_, fun i d h => ?_, r.sep, fun b h => ?_, fun n b h => ?_, r.hp.all, r.hp.inj, r.hp.nor⟩
  · obtain ⟨v, e, q⟩ := r.val i d h
    exact ⟨v, e, q.stab Stab.fr⟩
  · obtain ⟨b, e, q, nf, nr'⟩ := r.own i d h
    refine ⟨b, e, q.fr, fun z => ?_, nr'⟩
    rcases z with z | z
    · exact nf z
    · exact no ⟨i, d, h, z ▸ e⟩
  · rcases h with h | h
    · exact r.hp.frz b h
    · rw [h]; exact ld
  · obtain ⟨nf, o, e, q⟩ := r.hp.refs n b h
    exact ⟨fun z => z.elim nf fun z => nr n (z ▸ h), o, e, q.fr⟩
theorem Rel.freeze_new (r : Rel F W s σ H) {p : Addr} {o : HO} (hp : H p = none) (ld : LD (some o)) : Rel F (W.fr p) s σ (upd H p o) :=
  (r.new hp).freeze (by rw [upd_same]; exact ld.ll) (r.fresh_nown hp) (r.fresh_nref hp)
theorem Ext.freeze_new {p : Addr} {o : HO} (hp : H p = none) : Ext W s σ H (W.fr p) s σ (upd H p o) := by
  have e : Ext W s σ H W s σ (upd H p o) := Ext.new hp
  exact ⟨e.ref, fun _ h => .inl h, fun b ob h no nr => ⟨(e.keep b ob h no nr).1, fun z => z.elim id fun z => absurd hp (by rw [← z, h]; exact Option.some_ne_none _), nr⟩, e.own, e.trk⟩
end
end Cy

set_option Elab.async false
set_option linter.all false
set_option maxRecDepth 100000
/-! Cy: tuples that are made: as they are tracked, or with their objects known. -/
namespace Cy
open L2 PySem PySem.Spec PyProof.Rows

/-- what is wished of a new tuple: tracked, or known -/
def TupAns (Q : VK) (H : Hp) (p : Addr) (xs : List V) : Prop := Q (.ref p) (upd H p (.tup xs)) ∨ ∀ o : Obj, o.cls = .type "tuple" → o.dict = none → Q (.ref p) (upd H p (.frz o (.tup xs)))
section
variable {X : Cx}
theorem tup_laid {pins : List (Addr × Obj)} {σ : L2.St} {H : Hp} {s : Shared} {xs : List V} {us : List Value} {Q : VK} (I0 : Inv X pins σ H s) (rv : Vals xs us) (len : xs.length ≤ sizeLine)
    (ans : H s.heap.objs.size = none → TupAns Q H s.heap.objs.size xs) :
    ∃ x H', Inv X pins σ H' { s with heap := s.heap.push ({ cls := .type "tuple", data := .seq us.toArray } : Obj) } ∧ RelV x (.ref s.heap.objs.size) ∧ Q x H' := by
  have free : H s.heap.objs.size = none := I0.hok.fresh (Nat.le_refl _)
  have here : (s.heap.push ({ cls := .type "tuple", data := .seq us.toArray } : Obj)).get? s.heap.objs.size = some ({ cls := .type "tuple", data := .seq us.toArray } : Obj) := Heap.get?_push_size _ rfl
  rcases ans free with w | w
  · exact ⟨.ref s.heap.objs.size, _, I0.laid (t' := s.toks) (o := .tup xs) (fun c ob e => Heap.get?_push_of_some _ e) (Nat.le_refl _) ⟨len, us, rv, ⟨_, here, rfl, _, rfl⟩⟩, rfl, w⟩
  · exact ⟨.ref s.heap.objs.size, _, I0.laid (t' := s.toks) (o := .frz ({ cls := .type "tuple", data := .seq us.toArray } : Obj) (.tup xs)) (fun c ob e => Heap.get?_push_of_some _ e) (Nat.le_refl _)
      ⟨here, len, us, rv, ⟨_, here, rfl, _, rfl⟩⟩, rfl, w _ rfl rfl⟩
/-- a display -/
def zTup (t : L2.TA) : TE := fun σ H Q => t σ H fun xs H1 => xs.length ≤ sizeLine ∧ ∀ p, H1 p = none → TupAns Q H1 p xs
theorem pe_tupZ {es : List Expr} {t : L2.TA} {pos : Pos} {j} (row : PA X es t) : PE X (.Tuple es j pos) (zTup t) := by
  refine ⟨fun pins s σ H Q I0 hq => wpAny_Tuple_spliced (thn (row.run pos pins s σ H _ I0 hq) fun us s1 ⟨xs, H1, I1, rv, z, q⟩ => ?_)⟩
  exact ⟨by rw [← rv.length]; exact z, tup_laid I1 rv z fun hp => q _ hp⟩
/-- one tuple behind another -/
def rCatZ (K : PySem.W.Frag) : R2 := fun x y H Q => ∃ a b xs ys, x = .ref a ∧ y = .ref b ∧ SqT K H a xs ∧ SqT K H b ys ∧ xs.length + ys.length ≤ sizeLine ∧
  (xs = [] → Q (.ref b) H) ∧ (xs ≠ [] → ys = [] → Q (.ref a) H) ∧ (xs ≠ [] → ys ≠ [] → ∀ p, H p = none → TupAns Q H p (xs ++ ys))
theorem op_catZ : OpR X (binaryOp .Add) (rCatZ X.K) := by
  rintro pins s σ H x y v u Q I0 rx ry ⟨a, b, xs, ys, rfl, rfl, ta, tb, len, w0, w1, w2⟩
  by_cases e : xs = []
  · exact op_catA pins s σ H _ _ v u Q I0 rx ry ⟨a, b, xs, ys, rfl, rfl, ta, tb, len, w0, fun n => absurd e n, fun n => absurd e n⟩
  · cases rx
    cases ry
    obtain ⟨us, ru, tu, _⟩ := I0.tuple ta
    obtain ⟨ws, rw', tw, _⟩ := I0.tuple tb
    refine HT.cat_tup tu tw (fun z => e (ru.nil_iff.mp z)) (fun z => ⟨.ref a, H, I0, rfl, w1 e (rw'.nil_iff.mp z)⟩) (fun z => ?_) (by rw [← ru.length, ← rw'.length]; exact len)
    have := tup_laid (us := us ++ ws) I0 (ru.append rw') (by rw [List.length_append]; exact len) fun hp => w2 e (fun q => z (rw'.nil_iff.mpr q)) _ hp
    unfold EP
    simpa using this
/-- a part of a tuple -/
def rSlZ (K : PySem.W.Frag) : V → Option Int → Option Int → Hp → VK → Prop := fun x lo hi H Q => ∃ a xs, x = .ref a ∧ SqT K H a xs ∧
  (HT.sIx xs.length 0 lo = 0 ∧ HT.sIx xs.length xs.length hi = xs.length → Q (.ref a) H) ∧ (¬ (HT.sIx xs.length 0 lo = 0 ∧ HT.sIx xs.length xs.length hi = xs.length) → ∀ p, H p = none → TupAns Q H p (cutV xs lo hi))
theorem sl_tupZ : SlR X (rSlZ X.K) := by
  rintro pins s σ H x v vl vu lo hi sl Q I0 rx hs pl pu ⟨a, xs, rfl, tx, w1, w2⟩
  by_cases e : HT.sIx xs.length 0 lo = 0 ∧ HT.sIx xs.length xs.length hi = xs.length
  · exact sl_tupA pins s σ H _ v vl vu lo hi sl Q I0 rx hs pl pu ⟨a, xs, rfl, tx, w1, fun n => absurd e n⟩
  · cases rx
    obtain ⟨us, ru, tu, z⟩ := I0.tuple tx
    have lu : us.toArray.size = xs.length := by rw [List.size_toArray]; exact ru.length.symm
    refine ⟨"tuple", _, PyProof.Rows.slot_tuple_getitem.lookup, tu.typeIs, ?_⟩
    refine HT.getItem_tuple_cut tu hs pl pu (by rw [lu]; exact e) ?_ (by rw [lu]; exact z)
    rw [lu]
    exact tup_laid I0 ((ru.drop (HT.sIx xs.length 0 lo)).take (HT.sIx xs.length xs.length hi - HT.sIx xs.length 0 lo)) (Nat.le_trans (cutV_length xs lo hi) z) fun hp => w2 e _ hp
/-- tuple(x) -/
theorem call_tupZ : CallR X (.type "tuple") (fun xs H Q => ∃ p ys, xs = [.ref p] ∧ ((SqL X.K H p ys ∧ ∀ l, H l = none → TupAns Q H l ys) ∨ (SqT X.K H p ys ∧ Q (.ref p) H))) := by
  rintro pins s σ H xs us Q I0 r ⟨p, ys, rfl, w | w⟩
  · obtain ⟨u, rfl, ru⟩ := vals1 r
    cases ru
    obtain ⟨its, rv, tl, z⟩ := I0.list w.1
    have lz := rv.length
    refine call_tuple_list tl.isList (fun h' kp => ?_) (by simp only [List.size_toArray] <;> omega)
    have I1 : Inv X pins σ H { s with heap := h' } := I0.kept (t' := s.toks) kp
    obtain ⟨x, H', I2, r2, q2⟩ := tup_laid I1 rv z fun hp => w.2 _ hp
    exact ⟨x, H', I2, r2, q2⟩
  · exact call_tuple_of pins s σ H _ us Q I0 r ⟨p, ys, rfl, .inr w⟩
end
end Cy

set_option Elab.async false
set_option linter.all false
set_option maxRecDepth 100000
/-! Cy over the hand layer: expressions. -/
namespace Cy
open L2 PySem PySem.Spec PyProof.Rows

/-- what stands in a def's body all along -/
structure Cc (X : Cx) (Wx : WX) : Prop where
  calm : X.calm = true
  nd : X.N.Nodup
  un : X.A.units + 200 < cLine
  gd : X.A.guards = some []
  po : PassesOwn (model X.prog X.w) X.A X.env X.xe
  tk : Takes X Wx

/-- the exception x: its class by name, its own dict -/
def ExcD (F : Fg) (W : Wd) (H : Hp) (x : Exc) (cls : Value) (dct : Option Addr) : Prop :=
  ∃ (C dx : Addr) (vs : List V), PySem.W.nsIn F mainGlobals (st x.c) = some (some (.ref C)) ∧ cls = .ref C ∧ dct = some dx ∧ H dx = some (.xd ((x.fs.map fun p => st p.1).zip vs)) ∧ DenL F W H vs (x.fs.map (·.2))

/-! ### readings by runs -/
section
variable {α β γ δ : Type}
def Post (F : Fg) (Wx : WX) (De : Wd → Hp → β → α → Prop) (W : Wd) (s : S) (σ : St) (H : Hp) (Q : β → Hp → Prop) : Res α → Prop
  | .bad => False
  | .ok d s' => ∀ W' H' v, Ext W s σ H W' s' σ H' → Rel F W' s' σ H' → De W' H' v d → Q v H'
  | .exc x s' => ∀ W' H' cls dct, Ext W s σ H W' s' σ H' → Rel F W' s' σ H' → ExcD F W' H' x cls dct → Wx cls dct σ H'
/-- the reading of a run -/
def tr (F : Fg) (Wx : WX) (De : Wd → Hp → β → α → Prop) (g : G) (c : G → S → Res α) : St → Hp → (β → Hp → Prop) → Prop :=
  fun σ H Q => ∃ W s, Rel F W s σ H ∧ Post F Wx De W s σ H Q (c g s)
variable {F : Fg} {Wx : WX} {De : Wd → Hp → β → α → Prop} {De2 : Wd → Hp → δ → γ → Prop} {W W' W1 : Wd} {s s' s1 : S} {σ σ' : St} {H H' H1 : Hp} {Q : β → Hp → Prop} {Q2 : δ → Hp → Prop} {g : G}
theorem Post.shift {r : Res α} (e : Ext W s σ H W1 s1 σ H1) (p : Post F Wx De W s σ H Q r) : Post F Wx De W1 s1 σ H1 Q r := by
  cases r with
  | bad => exact p
  | ok d s' => exact fun W' H' v e' r' d' => p W' H' v (e.trans e') r' d'
  | exc x s' => exact fun W' H' c d e' r' x' => p W' H' c d (e.trans e') r' x'
theorem Post.imp {r : Res α} {Q' : β → Hp → Prop} (p : Post F Wx De W s σ H Q r) (h : ∀ v H', Q v H' → Q' v H') : Post F Wx De W s σ H Q' r := by
  cases r with
  | bad => exact p
  | ok d s' => exact fun W' H' v e' r' d' => h _ _ (p W' H' v e' r' d')
  | exc x s' => exact p
/-- one run, then what hangs on it -/
theorem tr_bind {a : G → S → Res α} {f : α → S → Res γ} (r : Rel F W s σ H) (p : Post F Wx De2 W s σ H Q2 ((a g s).bind f))
    (k : ∀ d s1 W1 H1 v, Ext W s σ H W1 s1 σ H1 → Rel F W1 s1 σ H1 → De W1 H1 v d → Post F Wx De2 W1 s1 σ H1 Q2 (f d s1) → Q v H1) : tr F Wx De g a σ H Q := by
  refine ⟨W, s, r, ?_⟩
  cases q : a g s with
  | bad => rw [q] at p; exact p
  | ok d s1 =>
    rw [q] at p
    exact fun W1 H1 v e r1 d1 => k d s1 W1 H1 v e r1 d1 (Post.shift e p)
  | exc x s1 =>
    rw [q] at p
    exact p
end
abbrev tev (F : Fg) (Wx : WX) (g : G) (c : Ex) : TE := tr F Wx (Den F) g c
abbrev tax (F : Fg) (Wx : WX) (g : G) (c : Ax) : TA := tr F Wx (DenL F) g c
abbrev ttx (F : Fg) (Wx : WX) (g : G) (c : Tx) : TT := tr F Wx (fun _ _ (b c : Bool) => b = c) g c
theorem _root_.L2.PE.mono {X : Cx} {e : Expr} {t t' : TE} (h : PE X e t) (m : ∀ σ H Q, t' σ H Q → t σ H Q) : PE X e t' := ⟨fun pins s σ H Q I q => h.run pins s σ H Q I (m _ _ _ q)⟩
theorem _root_.L2.PT.mono {X : Cx} {e : Expr} {t t' : TT} (h : PT X e t) (m : ∀ σ H Q, t' σ H Q → t σ H Q) : PT X e t' := ⟨fun pins s σ H Q I q => h.run pins s σ H Q I (m _ _ _ q)⟩
theorem _root_.L2.PW.mono {X : Cx} {e : Expr} {t t' : TT} (h : PW X e t) (m : ∀ σ H Q, t' σ H Q → t σ H Q) : PW X e t' := ⟨fun w pins s σ H Q I q => h.run w pins s σ H Q I (m _ _ _ q)⟩
theorem _root_.L2.PA.mono {X : Cx} {e : List Expr} {t t' : TA} (h : PA X e t) (m : ∀ σ H Q, t' σ H Q → t σ H Q) : PA X e t' := ⟨fun pos pins s σ H Q I q => h.run pos pins s σ H Q I (m _ _ _ q)⟩
theorem _root_.L2.PS.mono {X : Cx} {e : Stmt} {t t' : TS} (h : PS X e t) (m : ∀ D σ H, t' D σ H → t D σ H) : PS X e t' := ⟨fun pins s σ H D I q => h.run pins s σ H D I (m _ _ _ q)⟩
theorem _root_.L2.PSs.mono {X : Cx} {e : List Stmt} {t t' : TS} (h : PSs X e t) (m : ∀ D σ H, t' D σ H → t D σ H) : PSs X e t' := ⟨fun pins s σ H D I q => h.run pins s σ H D I (m _ _ _ q)⟩

section
variable {F : Fg} {W W' W1 : Wd} {s s' s1 : S} {σ σ' : St} {H H' H1 : Hp}
/-! ### an owned thing is read: it is frozen -/
theorem set_get {l : List Sl} {i j : Nat} {x y : Sl} (h : (l.set i x)[j]? = some y) : (j = i ∧ y = x ∧ i < l.length) ∨ (j ≠ i ∧ l[j]? = some y) := by
  rw [List.getElem?_set] at h
  by_cases e : i = j
  · rw [if_pos e] at h
    by_cases q : i < l.length
    · rw [if_pos q] at h; exact .inl ⟨e.symm, (Option.some.inj h).symm, q⟩
    · rw [if_neg q] at h; cases h
  · rw [if_neg e] at h; exact .inr ⟨fun z => e z.symm, h⟩
theorem Rel.read_own (r : Rel F W s σ H) {i : Nat} {d : D} {a : Addr} (h : s.sg[i]? = some (.own d)) (e : σ[i]? = some (some (.ref a))) :
    Ext W s σ H (W.fr a) { s with sg := s.sg.set i (.val d) } σ H ∧ Rel F (W.fr a) { s with sg := s.sg.set i (.val d) } σ H ∧ Den F (W.fr a) H (.ref a) d := by
  obtain ⟨b, e', q, nf, nr⟩ := r.own i d h
  rw [e] at e'; cases e'
  have oa : OwnAt s σ a := ⟨i, d, h, e⟩
  have sub : ∀ b, OwnAt { s with sg := s.sg.set i (.val d) } σ b → OwnAt s σ b := fun b ⟨j, d', h1, h2⟩ => by
    rcases set_get h1 with ⟨_, z, _⟩ | ⟨_, z⟩
    · cases z
    · exact ⟨j, d', z, h2⟩
  have d0 : Den F (W.fr a) H (.ref a) d := q.fr.den (.inr rfl)
  refine ⟨⟨fun _ _ h => h, fun _ h => .inl h, fun b o hb no nr' => ⟨.inl hb, fun z => z.elim id fun z => (no (z ▸ oa)).elim, nr'⟩, fun b _ h => sub b h, fun _ h => h⟩, ⟨?_, fun j d' hj => ?_, fun j d' hj => ?_, fun j k d1 d2 c h1 h2 h3 h4 => ?_, fun b hb => ?_, fun n b hb => ?_, r.hp.all, r.hp.inj, r.hp.nor⟩, d0⟩
  · simpa using r.len
  · rcases set_get hj with ⟨rfl, z, _⟩ | ⟨_, z⟩
    · cases z; exact ⟨_, e, d0⟩
    · obtain ⟨v, e1, q1⟩ := r.val j d' z
      exact ⟨v, e1, q1.stab Stab.fr⟩
  · rcases set_get hj with ⟨_, z, _⟩ | ⟨ne, z⟩
    · cases z
    · obtain ⟨c, e1, q1, nf1, nr1⟩ := r.own j d' z
      refine ⟨c, e1, q1.fr, fun y => ?_, nr1⟩
      rcases y with y | y
      · exact nf1 y
      · subst y; exact ne (r.sep j i d' d c z h e1 e)
  · rcases set_get h1 with ⟨_, z, _⟩ | ⟨_, z1⟩
    · cases z
    · rcases set_get h2 with ⟨_, z, _⟩ | ⟨_, z2⟩
      · cases z
      · exact r.sep j k d1 d2 c z1 z2 h3 h4
  · rcases hb with hb | hb
    · exact r.hp.frz b hb
    · rw [hb]; exact q.ld.ll
  · obtain ⟨nf1, o, e1, q1⟩ := r.hp.refs n b hb
    exact ⟨fun y => y.elim nf1 fun y => nr n (y ▸ hb), o, e1, q1.fr⟩
end

section
variable {X : Cx} {Wx : WX} {g : G} {pos : Pos}
theorem se_var {i : Nat} {x : Str} (hN : X.N[i]? = some x) (hv : Vis X.env.scope x) (hd : (x == ("__debug__" : Str)) = false) (hcd : (x == ("__classdict__" : Str)) = false) : PE X (.Name x pos) (tev X.K Wx g (var i)) := by
  refine (pe_var (i := i) hN hv hd hcd).mono fun σ H Q ⟨W, s, r, p⟩ => ?_
  unfold var at p
  cases q : s.sg[i]? with
  | none => rw [q] at p; exact p.elim
  | some c =>
    rw [q] at p
    cases c with
    | no => exact p.elim
    | val d =>
      obtain ⟨v, e, dv⟩ := r.val i d q
      exact ⟨v, e, p W H v Ext.refl r dv⟩
    | own d =>
      obtain ⟨a, e, _⟩ := r.own i d q
      obtain ⟨x1, r1, d1⟩ := r.read_own q e
      exact ⟨_, e, p _ _ _ x1 r1 d1⟩
theorem se_int {n : Int} {j} : PE X (.Constant (.int n) j pos) (tev X.K Wx g (cst (.int n))) := pe_int.mono fun σ H Q ⟨W, s, r, p⟩ => p W H _ Ext.refl r (.int n)
theorem se_bl {n : Bool} {j} : PE X (.Constant (.bool n) j pos) (tev X.K Wx g (cst (.bl n))) := pe_bl.mono fun σ H Q ⟨W, s, r, p⟩ => p W H _ Ext.refl r (.bl n)
theorem se_non {j} : PE X (.Constant .none j pos) (tev X.K Wx g (cst .non)) := pe_non.mono fun σ H Q ⟨W, s, r, p⟩ => p W H _ Ext.refl r .non
theorem st_of (x : Str) : x = st x.cps.toList := by cases x; simp [st]
theorem se_str {x : Str} {j} : PE X (.Constant (.str x) j pos) (tev X.K Wx g (cst (.str x.cps.toList))) := pe_str.mono fun σ H Q ⟨W, s, r, p⟩ => p W H (.str x) Ext.refl r (by
  have := Den.str (F := X.K) (W := W) (H := H) x.cps.toList
  rw [← st_of] at this; exact this)
end

/-! ### what stands there -/
/-- v is the thing d, as it stands now -/
def DenC (F : Fg) (W : Wd) (H : Hp) (v : V) (d : D) : Prop := Den F W H v d ∨ ∃ a, v = .ref a ∧ OwnOb F W H a d
section
variable {F : Fg} {W W' : Wd} {H H' : Hp} {v : V}
theorem DenC.tup {l : List D} (h : DenC F W H v (.tup l)) : ∃ a vs, v = .ref a ∧ TupAt H a vs l ∧ DenL F W H vs l := by
  rcases h with h | ⟨a, _, h⟩
  · cases h with
    | tup h r => exact ⟨_, _, rfl, h, r⟩
  · exact h.elim
theorem DenC.lst {l : List D} (h : DenC F W H v (.lst l)) : ∃ a vs, v = .ref a ∧ H a = some (.lst vs) ∧ DenL F W H vs l := by
  rcases h with h | ⟨a, e, h⟩
  · cases h with
    | lst z h r => exact ⟨_, _, rfl, h, r⟩
  · obtain ⟨vs, h, r⟩ := h
    exact ⟨a, vs, e, h, r⟩
theorem DenC.fro {l : List D} (h : DenC F W H v (.fro l)) : ∃ a vs, v = .ref a ∧ SqL F H a vs ∧ DenL F W H vs l := by
  rcases h with h | ⟨a, e, h⟩
  · cases h with
    | fro h r => exact ⟨_, _, rfl, h H fun _ _ e => e, r⟩
  · exact h.elim
theorem DenC.frt {l : List D} (h : DenC F W H v (.frt l)) : ∃ a vs, v = .ref a ∧ SqT F H a vs ∧ DenL F W H vs l := by
  rcases h with h | ⟨a, e, h⟩
  · cases h with
    | frt h r => exact ⟨_, _, rfl, h H fun _ _ e => e, r⟩
  · exact h.elim
theorem DenC.dic {l : List (K × D)} (h : DenC F W H v (.dic l)) : ∃ a vs, v = .ref a ∧ Rd H a (.dK vs) ∧ DenK F W H vs l := by
  rcases h with h | ⟨a, e, h⟩
  · cases h with
    | dic z h r => exact ⟨_, _, rfl, h, r⟩
  · obtain ⟨vs, h, r⟩ := h
    exact ⟨a, vs, e, .inl h, r⟩
theorem DenC.dit {l : List (List K × D)} (h : DenC F W H v (.dit l)) : ∃ a vs, v = .ref a ∧ Rd H a (.dT vs) ∧ DenT F W H vs l := by
  rcases h with h | ⟨a, e, h⟩
  · cases h with
    | dit z h r => exact ⟨_, _, rfl, h, r⟩
  · obtain ⟨vs, h, r⟩ := h
    exact ⟨a, vs, e, .inl h, r⟩
theorem DenC.int {i : Int} (h : DenC F W H v (.int i)) : v = .int i := by
  rcases h with h | ⟨a, _, h⟩
  · cases h; rfl
  · exact h.elim
theorem DenC.str {x : Nm} (h : DenC F W H v (.str x)) : v = .str (st x) := by
  rcases h with h | ⟨a, _, h⟩
  · cases h; rfl
  · exact h.elim
theorem DenC.repV {x : D} (h : DenC F W H v (.rep x)) : v = .str (py x).shown := by
  rcases h with h | ⟨a, _, h⟩
  · cases h; rfl
  · exact h.elim
theorem DenC.bl {i : Bool} (h : DenC F W H v (.bl i)) : v = .bl i := by
  rcases h with h | ⟨a, _, h⟩
  · cases h; rfl
  · exact h.elim
theorem DenC.non (h : DenC F W H v .non) : v = .non := by
  rcases h with h | ⟨a, _, h⟩
  · cases h; rfl
  · exact h.elim
theorem DenC.ref {n : Nat} (h : DenC F W H v (.ref n)) : ∃ a, v = .ref a ∧ W.ref n = some a := by
  rcases h with h | ⟨a, _, h⟩
  · cases h with
    | ref h => exact ⟨_, rfl, h⟩
  · exact h.elim
theorem Den.blv {i : Bool} (h : Den F W H v (.bl i)) : v = .bl i := DenC.bl (.inl h)
theorem Den.intv {i : Int} (h : Den F W H v (.int i)) : v = .int i := DenC.int (.inl h)
end

/-! ### operands -/
/-- an operand's value on its way -/
def OpOk (F : Fg) (o : Op) (x : D) (v : V) (W : Wd) (σ : St) (H : Hp) : Prop := match o with
  | .pk i => σ[i]? = some (some v)
  | .ex _ => Den F W H v x
theorem OpOk.ext {F : Fg} {o : Op} {x : D} {v : V} {W W' : Wd} {s s' : S} {σ : St} {H H' : Hp} (h : OpOk F o x v W σ H) (r : Rel F W s σ H) (e : Ext W s σ H W' s' σ H') : OpOk F o x v W' σ H' := by
  cases o with
  | pk i => exact h
  | ex c => exact Den.ext h r e
theorem OpOk.den {F : Fg} {o : Op} {x d : D} {v : V} {W : Wd} {s : S} {σ : St} {H : Hp} (h : OpOk F o x v W σ H) (r : Rel F W s σ H) (e : o.rd x s = some d) : DenC F W H v d := by
  cases o with
  | ex c => cases e; exact .inl h
  | pk i =>
    have h : σ[i]? = some (some v) := h
    have e : rdP i s = some d := e
    unfold rdP at e
    cases q : s.sg[i]? with
    | none => rw [q] at e; cases e
    | some c =>
      rw [q] at e
      cases c with
      | no => cases e
      | val d' =>
        cases e
        obtain ⟨u, e1, e2⟩ := r.val i _ q
        rw [h] at e1; cases e1
        exact .inl e2
      | own d' =>
        cases e
        obtain ⟨a, e1, e2, _⟩ := r.own i _ q
        rw [h] at e1; cases e1
        exact .inr ⟨a, rfl, e2⟩
def top (F : Fg) (Wx : WX) (g : G) : Op → TE
  | .pk i => tVar i
  | .ex c => tev F Wx g c
section
variable {γ δ : Type} {F : Fg} {Wx : WX} {De2 : Wd → Hp → δ → γ → Prop} {W : Wd} {s : S} {σ : St} {H : Hp} {Q2 : δ → Hp → Prop} {g : G}
theorem top_bind {o : Op} {f : D → S → Res γ} {Q : VK} (r : Rel F W s σ H) (p : Post F Wx De2 W s σ H Q2 ((o.ev g s).bind f))
    (k : ∀ d s1 W1 H1 v, Ext W s σ H W1 s1 σ H1 → Rel F W1 s1 σ H1 → OpOk F o d v W1 σ H1 → Post F Wx De2 W1 s1 σ H1 Q2 (f d s1) → Q v H1) : top F Wx g o σ H Q := by
  cases o with
  | ex c => exact tr_bind (De := Den F) r p k
  | pk i =>
    show ∃ v, σ[i]? = some (some v) ∧ Q v H
    have p : Post F Wx De2 W s σ H Q2 ((evP i s).bind f) := p
    unfold evP at p
    cases q : s.sg[i]? with
    | none => rw [q] at p; exact p.elim
    | some c =>
      rw [q] at p
      cases c with
      | no => exact p.elim
      | val d =>
        obtain ⟨v, e, _⟩ := r.val i d q
        exact ⟨v, e, k _ s W H v Ext.refl r e p⟩
      | own d =>
        obtain ⟨a, e, _⟩ := r.own i d q
        exact ⟨_, e, k _ s W H _ Ext.refl r e p⟩
end
/-- what a rule by values asks is there -/
def Prim1 (F : Fg) (f : List Ob → D → Option D) (r : V → Hp → VK → Prop) : Prop := ∀ (W : Wd) (s : S) (σ : St) (H : Hp) (v : V) (d z : D) (Q : VK), Rel F W s σ H → DenC F W H v d → f s.h d = some z →
  (∀ W' H' x, Ext W s σ H W' s σ H' → Rel F W' s σ H' → Den F W' H' x z → Q x H') → r v H Q
def Prim2 (F : Fg) (f : List Ob → D → D → Option D) (r : R2) : Prop := ∀ (W : Wd) (s : S) (σ : St) (H : Hp) (v u : V) (d e z : D) (Q : VK), Rel F W s σ H → DenC F W H v d → DenC F W H u e → f s.h d e = some z →
  (∀ W' H' x, Ext W s σ H W' s σ H' → Rel F W' s σ H' → Den F W' H' x z → Q x H') → r v u H Q
section
variable {X : Cx} {Wx : WX} {g : G}
theorem rd_one {F : Fg} {f : List Ob → D → Option D} {a : Op} {r : V → Hp → VK → Prop} (pr : Prim1 F f r) {σ : St} {H : Hp} {Q : VK} (h : tev F Wx g (o1 f a) σ H Q) : tUn r (top F Wx g a) σ H Q := by
  obtain ⟨W, s, rl, p⟩ := h
  refine top_bind rl p fun x s1 W1 H1 v e1 r1 o1 p1 => ?_
  cases q : a.rd x s1 with
  | none => rw [q] at p1; exact p1.elim
  | some d =>
    rw [q] at p1
    cases q2 : f s1.h d with
    | none => simp only [q2] at p1; exact p1.elim
    | some z =>
      simp only [q2] at p1
      exact pr W1 s1 σ H1 v d z Q r1 (o1.den r1 q) q2 p1
theorem rd_two {F : Fg} {f : List Ob → D → D → Option D} {a b : Op} {r : R2} (pr : Prim2 F f r) {σ : St} {H : Hp} {Q : VK} (h : tev F Wx g (o2 f a b) σ H Q) : tOp r (top F Wx g a) (top F Wx g b) σ H Q := by
  obtain ⟨W, s, rl, p⟩ := h
  refine top_bind rl p fun x s1 W1 H1 v e1 r1 o1 p1 => ?_
  refine top_bind r1 p1 fun y s2 W2 H2 u e2 r2 o2 p2 => ?_
  cases q : a.rd x s2 with
  | none => rw [q] at p2; exact p2.elim
  | some d =>
    cases q1 : b.rd y s2 with
    | none => rw [q, q1] at p2; exact p2.elim
    | some e =>
      rw [q, q1] at p2
      cases q2 : f s2.h d e with
      | none => simp only [q2] at p2; exact p2.elim
      | some z =>
        simp only [q2] at p2
        exact pr W2 s2 σ H2 v u d e z Q r2 ((o1.ext r1 e2).den r2 q) (o2.den r2 q1) q2 p2
end

/-! ### both, either, conditional, tests -/
section
variable {X : Cx} {Wx : WX} {g : G} {pos : Pos} {e a b c : Expr} {es rest : List Expr}
theorem se_and {ca cb : Ex} (ha : PE X a (tev X.K Wx g ca)) (hb : PE X (.BoolOp .And (b :: rest) pos) (tev X.K Wx g cb)) : PE X (.BoolOp .And (a :: b :: rest) pos) (tev X.K Wx g (eAnd ca cb)) := by
  refine (pe_and ha hb).mono fun σ H Q ⟨W, s, r, p⟩ => ?_
  refine tr_bind (De := Den X.K) r p fun d s1 W1 H1 v e1 r1 d1 p1 => ?_
  cases d with
  | bl k =>
    obtain rfl := d1.blv
    refine ⟨k, rfl, ?_⟩
    cases k with
    | true => exact ⟨W1, s1, r1, p1⟩
    | false => exact p1 _ _ _ Ext.refl r1 (.bl false)
  | _ => exact p1.elim
theorem se_or {ca cb : Ex} (ha : PE X a (tev X.K Wx g ca)) (hb : PE X (.BoolOp .Or (b :: rest) pos) (tev X.K Wx g cb)) : PE X (.BoolOp .Or (a :: b :: rest) pos) (tev X.K Wx g (eOr ca cb)) := by
  refine (pe_or ha hb).mono fun σ H Q ⟨W, s, r, p⟩ => ?_
  refine tr_bind (De := Den X.K) r p fun d s1 W1 H1 v e1 r1 d1 p1 => ?_
  cases d with
  | bl k =>
    obtain rfl := d1.blv
    refine ⟨k, rfl, ?_⟩
    cases k with
    | true => exact p1 _ _ _ Ext.refl r1 (.bl true)
    | false => exact ⟨W1, s1, r1, p1⟩
  | _ => exact p1.elim
theorem se_one {op} {ca : Ex} (ha : PE X a (tev X.K Wx g ca)) : PE X (.BoolOp op [a] pos) (tev X.K Wx g ca) := pe_one ha
theorem se_if {ct : Tx} {ca cb : Ex} (ht : PT X c (ttx X.K Wx g ct)) (ha : PE X a (tev X.K Wx g ca)) (hb : PE X b (tev X.K Wx g cb)) : PE X (.IfExp c a b pos) (tev X.K Wx g (eIf ct ca cb)) := by
  refine (pe_ifExp ht ha hb).mono fun σ H Q ⟨W, s, r, p⟩ => ?_
  refine tr_bind (De := fun _ _ (b c : Bool) => b = c) r p fun d s1 W1 H1 v e1 r1 d1 p1 => ?_
  subst d1
  cases v with
  | true => exact ⟨W1, s1, r1, p1⟩
  | false => exact ⟨W1, s1, r1, p1⟩
theorem st_val {ce : Ex} (h : PE X e (tev X.K Wx g ce)) (he : ∀ whole, isTrue e X.env whole = (do let v ← whole; standAt e.pos; holding [v] (truthy v))) : PT X e (ttx X.K Wx g (tE ce)) := by
  refine (pt_val h he).mono fun σ H Q ⟨W, s, r, p⟩ => ?_
  refine tr_bind (De := Den X.K) r p fun d s1 W1 H1 v e1 r1 d1 p1 => ?_
  cases d with
  | bl k =>
    obtain rfl := d1.blv
    exact ⟨k, rfl, p1 _ _ _ Ext.refl r1 rfl⟩
  | _ => exact p1.elim
theorem st_not {ct : Tx} (h : PT X a (ttx X.K Wx g ct)) : PT X (.UnaryOp .Not a pos) (ttx X.K Wx g (tNot ct)) := by
  refine (pt_not h).mono fun σ H Q ⟨W, s, r, p⟩ => ?_
  refine tr_bind (De := fun _ _ (b c : Bool) => b = c) r p fun d s1 W1 H1 v e1 r1 d1 p1 => ?_
  subst d1
  exact p1 _ _ _ Ext.refl r1 rfl
theorem sw_and1 {ct : Tx} (h : PT X a (ttx X.K Wx g ct)) : PW X (.BoolOp .And [a] pos) (ttx X.K Wx g ct) := pw_and1 h
theorem sw_or1 {ct : Tx} (h : PT X a (ttx X.K Wx g ct)) : PW X (.BoolOp .Or [a] pos) (ttx X.K Wx g ct) := pw_or1 h
theorem sw_and {ct cu : Tx} (h : PT X a (ttx X.K Wx g ct)) (hb : PW X (.BoolOp .And (b :: rest) pos) (ttx X.K Wx g cu)) : PW X (.BoolOp .And (a :: b :: rest) pos) (ttx X.K Wx g (tAnd ct cu)) := by
  refine (pw_and h hb).mono fun σ H Q ⟨W, s, r, p⟩ => ?_
  refine tr_bind (De := fun _ _ (b c : Bool) => b = c) r p fun d s1 W1 H1 v e1 r1 d1 p1 => ?_
  subst d1
  cases v with
  | true => exact ⟨W1, s1, r1, p1⟩
  | false => exact p1 _ _ _ Ext.refl r1 rfl
theorem sw_or {ct cu : Tx} (h : PT X a (ttx X.K Wx g ct)) (hb : PW X (.BoolOp .Or (b :: rest) pos) (ttx X.K Wx g cu)) : PW X (.BoolOp .Or (a :: b :: rest) pos) (ttx X.K Wx g (tOr ct cu)) := by
  refine (pw_or h hb).mono fun σ H Q ⟨W, s, r, p⟩ => ?_
  refine tr_bind (De := fun _ _ (b c : Bool) => b = c) r p fun d s1 W1 H1 v e1 r1 d1 p1 => ?_
  subst d1
  cases v with
  | true => exact p1 _ _ _ Ext.refl r1 rfl
  | false => exact ⟨W1, s1, r1, p1⟩
/-! ### rows, displays -/
theorem sa_nil : PA X [] (tax X.K Wx g aNil) := pa_nil.mono fun σ H Q ⟨W, s, r, p⟩ => p _ _ _ Ext.refl r .nil
theorem sa_cons {ce : Ex} {cr : Ax} (he : PE X e (tev X.K Wx g ce)) (hr : PA X es (tax X.K Wx g cr)) (hs : starEach (e :: es) X.env = (false, eval e X.env) :: starEach es X.env) : PA X (e :: es) (tax X.K Wx g (aCons ce cr)) := by
  refine (pa_cons he hr hs).mono fun σ H Q ⟨W, s, r, p⟩ => ?_
  refine tr_bind (De := Den X.K) r p fun d s1 W1 H1 v e1 r1 d1 p1 => ?_
  refine tr_bind (De := DenL X.K) r1 p1 fun ds s2 W2 H2 vs e2 r2 d2 p2 => ?_
  exact p2 _ _ _ Ext.refl r2 (.cons (d1.ext r1 e2) d2)
theorem sa_star {ce : Ex} {cr : Ax} {p0 : Pos} (he : PE X e (tev X.K Wx g ce)) (hr : PA X es (tax X.K Wx g cr)) : PA X (.Starred e p0 :: es) (tax X.K Wx g (aStar ce cr)) := by
  refine (StX.pa_star he hr).mono fun σ H Q ⟨W, s, r, p⟩ => ?_
  refine tr_bind (De := Den X.K) r p fun d s1 W1 H1 v e1 r1 d1 p1 => ?_
  cases q : items? d with
  | none => simp only [q] at p1; exact p1.elim
  | some l =>
    simp only [q] at p1
    have it : ∃ a vs, v = V.ref a ∧ (SqT X.K H1 a vs ∨ SqL X.K H1 a vs) ∧ DenL X.K W1 H1 vs l := by
      cases d <;> simp only [items?, Option.some.injEq, reduceCtorEq] at q
      · subst q
        obtain ⟨a, vs, e, h, l⟩ := DenC.tup (.inl d1)
        exact ⟨a, vs, e, .inl (h.sq), l⟩
      · subst q
        obtain ⟨a, vs, e, h, l⟩ := DenC.lst (.inl d1)
        exact ⟨a, vs, e, .inr (SqL.of h), l⟩
    obtain ⟨a, vs, rfl, hs, dl⟩ := it
    refine ⟨a, vs, rfl, hs, ?_⟩
    refine tr_bind (De := DenL X.K) r1 p1 fun ds s2 W2 H2 us e2 r2 d2 p2 => ?_
    by_cases z : l.length + ds.length ≤ lim
    · rw [if_pos z] at p2
      exact p2 _ _ _ Ext.refl r2 ((dl.ext r1 e2).append d2)
    · rw [if_neg z] at p2; exact p2.elim
end
end Cy

set_option Elab.async false
set_option linter.all false
set_option maxRecDepth 100000
/-! Cy over the hand layer: operators on data. -/
namespace Cy
open L2 PySem PySem.Spec PyProof.Rows

/-! ### plain data as the library has it -/
theorem pyL_map : ∀ l : List D, pyL l = l.map py
  | [] => rfl
  | x :: r => by rw [pyL, pyL_map r]; rfl
mutual
theorem eqv_py : ∀ (n : Nat) (x y : D), pl n x = true → pl n y = true → eqv x y = PyData.eqv (py x) (py y)
  | n, x, y, hx, hy => by
    cases x with
    | non => cases y <;> first | rfl | (cases n <;> simp [pl] at hy) | simp only [eqv, py, PyData.eqv]
    | bl b => cases y <;> first | rfl | (cases n <;> simp [pl] at hy) | simp only [eqv, py, PyData.eqv]
    | int b => cases y <;> first | rfl | (cases n <;> simp [pl] at hy) | simp only [eqv, py, PyData.eqv]
    | str b =>
      cases y with
      | str c =>
        simp only [eqv, py, PyData.eqv]
        by_cases e : b = c
        · subst e; simp
        · have h1 : (b == c) = false := beq_eq_false_iff_ne.mpr e
          have h2 : (st b == st c) = false := beq_eq_false_iff_ne.mpr fun z => e (st_inj z)
          rw [h1, h2]
      | _ => first | rfl | (cases n <;> simp [pl] at hy) | simp only [eqv, py, PyData.eqv]
    | tup l =>
      cases n with
      | zero => simp [pl] at hx
      | succ n =>
        cases y with
        | tup m =>
          simp only [pl] at hx hy
          simp only [eqv, py, PyData.eqv]
          exact eqvL_py n l m hx hy
        | _ => first | rfl | (simp [pl] at hy) | simp only [eqv, py, PyData.eqv]
    | lst l =>
      cases n with
      | zero => simp [pl] at hx
      | succ n =>
        cases y with
        | lst m =>
          simp only [pl] at hx hy
          simp only [eqv, py, PyData.eqv]
          exact eqvL_py n l m hx hy
        | _ => first | rfl | (simp [pl] at hy) | simp only [eqv, py, PyData.eqv]
    | dic l => cases n <;> simp [pl] at hx
    | dit l => cases n <;> simp [pl] at hx
    | ref l => cases n <;> simp [pl] at hx
    | rep l => cases n <;> simp [pl] at hx
    | fro l => cases n <;> simp [pl] at hx
    | frt l => cases n <;> simp [pl] at hx
theorem eqvL_py : ∀ (n : Nat) (x y : List D), x.all (pl n) = true → y.all (pl n) = true → eqvL x y = PyData.eqvAll (pyL x) (pyL y)
  | n, [], [], _, _ => by simp only [eqvL, pyL, PyData.eqvAll]
  | n, [], _ :: _, _, _ => by simp only [eqvL, pyL, PyData.eqvAll]
  | n, _ :: _, [], _, _ => by simp only [eqvL, pyL, PyData.eqvAll]
  | n, x :: xs, y :: ys, hx, hy => by
    rw [List.all_cons, Bool.and_eq_true] at hx hy
    simp only [eqvL, pyL, PyData.eqvAll]
    rw [eqv_py n x y hx.1 hy.1, eqvL_py n xs ys hx.2 hy.2]
end
mutual
theorem lay_py : ∀ (n : Nat) (x : D), pl n x = true → (py x).canLay0 = true ∧ (py x).depth ≤ n
  | n, x, h => by
    cases x with
    | non => exact ⟨by simp only [py, PyData.canLay0], by simp only [py, PyData.depth]; omega⟩
    | bl b => exact ⟨by simp only [py, PyData.canLay0], by simp only [py, PyData.depth]; omega⟩
    | int b => exact ⟨by simp only [py, PyData.canLay0], by simp only [py, PyData.depth]; omega⟩
    | str b =>
      refine ⟨?_, by simp only [py, PyData.depth]; omega⟩
      simp only [py, PyData.canLay0, PyData.strOk, st]
      have h' : (b.all fun c => Nat.blt c 1114112) = true := by cases n <;> simpa only [pl] using h
      rw [← Array.all_toList]
      rw [List.all_eq_true] at h' ⊢
      intro c hc
      have := h' c hc
      have : c ≤ 1114111 := by simpa [Nat.blt] using this
      exact decide_eq_true (by omega)
    | tup l =>
      cases n with
      | zero => simp [pl] at h
      | succ n =>
        simp only [pl] at h
        obtain ⟨a, b⟩ := layL_py n l h
        exact ⟨by simp only [py, PyData.canLay0]; exact a, by simp only [py, PyData.depth]; omega⟩
    | lst l =>
      cases n with
      | zero => simp [pl] at h
      | succ n =>
        simp only [pl] at h
        obtain ⟨a, b⟩ := layL_py n l h
        exact ⟨by simp only [py, PyData.canLay0]; exact a, by simp only [py, PyData.depth]; omega⟩
    | dic l => cases n <;> simp [pl] at h
    | dit l => cases n <;> simp [pl] at h
    | ref l => cases n <;> simp [pl] at h
    | rep l => cases n <;> simp [pl] at h
    | fro l => cases n <;> simp [pl] at h
    | frt l => cases n <;> simp [pl] at h
theorem layL_py : ∀ (n : Nat) (x : List D), x.all (pl n) = true → PyData.canLayAll0 (pyL x) = true ∧ PyData.depthAll (pyL x) ≤ n
  | n, [], _ => ⟨by simp only [pyL, PyData.canLayAll0], by simp only [pyL, PyData.depthAll]; omega⟩
  | n, x :: xs, h => by
    rw [List.all_cons, Bool.and_eq_true] at h
    obtain ⟨a, b⟩ := lay_py n x h.1
    obtain ⟨c, d⟩ := layL_py n xs h.2
    exact ⟨by simp only [pyL, PyData.canLayAll0, a, c, Bool.and_self], by simp only [pyL, PyData.depthAll]; omega⟩
end
theorem shaped_py {x : D} (h : plain x = true) : SeqAt.shaped (py x) = true := by
  obtain ⟨a, b⟩ := lay_py 40 x h
  unfold SeqAt.shaped
  rw [a, decide_eq_true (show (py x).depth ≤ 64 by omega)]
  rfl
theorem shapedL_py {x : List D} (h : x.all plain = true) : SeqAt.shaped (.list (pyL x)) = true := by
  obtain ⟨a, b⟩ := layL_py 40 x h
  unfold SeqAt.shaped
  have h1 : (PyData.list (pyL x)).canLay0 = true := by simp only [PyData.canLay0]; exact a
  have h2 : (PyData.list (pyL x)).depth ≤ 64 := by simp only [PyData.depth]; omega
  rw [h1, decide_eq_true h2]
  rfl
section
variable {F : Fg} {W : Wd} {H : Hp}
mutual
theorem Den.dp : ∀ (n : Nat) {v : V} {d : D}, Den F W H v d → pl n d = true → Dp F H v (py d)
  | _, _, _, .non, _ => by rw [py]; exact .non
  | _, _, _, .bl b, _ => by rw [py]; exact .bl b
  | _, _, _, .int i, _ => by rw [py]; exact .int i
  | _, _, _, .str x, _ => by rw [py]; exact .str _
  | n, _, _, .tup h r, z => by
    cases n with
    | zero => simp [pl] at z
    | succ n => simp only [pl] at z; rw [py]; exact .tup h.sq (DenL.dp n r z)
  | n, _, _, .lst _ h r, z => by
    cases n with
    | zero => simp [pl] at z
    | succ n => simp only [pl] at z; rw [py]; exact .lst (SqL.of h) (DenL.dp n r z)
  | n, _, _, .fro h r, z => by cases n <;> simp [pl] at z
  | n, _, _, .frt h r, z => by cases n <;> simp [pl] at z
  | n, _, _, .dic _ h r, z => by cases n <;> simp [pl] at z
  | n, _, _, .dit _ h r, z => by cases n <;> simp [pl] at z
  | n, _, _, .ref h, z => by cases n <;> simp [pl] at z
  | n, _, _, .rep d, z => by cases n <;> simp [pl] at z
theorem DenL.dp : ∀ (n : Nat) {v : List V} {d : List D}, DenL F W H v d → d.all (pl n) = true → DpAll F H v (pyL d)
  | _, _, _, .nil, _ => by rw [pyL]; exact .nil
  | n, _, _, .cons h r, z => by
    rw [List.all_cons, Bool.and_eq_true] at z
    rw [pyL]
    exact .cons (Den.dp n h z.1) (DenL.dp n r z.2)
end
theorem DenC.dp {v : V} {d : D} (h : DenC F W H v d) (z : plain d = true) : Dp F H v (py d) := by
  rcases h with h | ⟨a, rfl, h⟩
  · exact h.dp 40 z
  · cases d <;> simp only [OwnOb] at h
    · obtain ⟨vs, e, r⟩ := h
      have z' : _ := z
      simp only [plain, pl] at z'
      rw [py]
      exact .lst (SqL.of e) (r.dp 39 z')
    · simp [plain, pl] at z
    · simp [plain, pl] at z
end

/-! ### a result that is made -/
section
variable {F : Fg} {W : Wd} {s : S} {σ : St} {H : Hp} {z : D} {Q : VK}
/-- how results come -/
abbrev Ends1 (F : Fg) (W : Wd) (s : S) (σ : St) (H : Hp) (z : D) (Q : VK) : Prop := ∀ W' H' x, Ext W s σ H W' s σ H' → Rel F W' s σ H' → Den F W' H' x z → Q x H'
theorem Ends1.here (k : Ends1 F W s σ H z Q) (r : Rel F W s σ H) {x : V} (d : Den F W H x z) : Q x H := k W H x Ext.refl r d
theorem Ends1.tup0 {vs : List V} {ds : List D} (k : Ends1 F W s σ H (.tup ds) Q) (r : Rel F W s σ H) (d : DenL F W H vs ds) (z : sT ds = false) : ∀ p, H p = none → Q (.ref p) (upd H p (.tup vs)) := fun p hp =>
  k W _ _ (Ext.new hp) (r.new hp) (.tup (.inr ⟨z, upd_same⟩) (d.stab (r.stab_new hp)))
theorem sT_rep {l : List D} (z : sT l = false) : ∀ n : Nat, sT (List.replicate n l).flatten = false
  | 0 => rfl
  | n + 1 => by
    rw [List.replicate_succ, List.flatten_cons]
    cases l with
    | nil => exact sT_rep z n
    | cons a r =>
      simp only [sT, Bool.and_eq_false_iff] at z
      rw [List.cons_append]
      simp only [sT, List.all_append]
      rcases z with z | z <;> simp [z]
theorem Ends1.tup {vs : List V} {ds : List D} (k : Ends1 F W s σ H (.tup ds) Q) (r : Rel F W s σ H) (d : DenL F W H vs ds) : ∀ p, H p = none → TupAns Q H p vs := fun p hp => by
  cases q : sT ds with
  | false => exact .inl (k W _ _ (Ext.new hp) (r.new hp) (.tup (.inr ⟨q, upd_same⟩) (d.stab (r.stab_new hp))))
  | true => exact .inr fun o hc hd => k W _ _ (Ext.new hp) (r.new hp) (.tup (.inl ⟨q, o, upd_same, hc, hd⟩) (d.stab (r.stab_new hp)))
theorem Ends1.lst {vs : List V} {ds : List D} (k : Ends1 F W s σ H (.lst ds) Q) (r : Rel F W s σ H) (d : DenL F W H vs ds) : ∀ p, H p = none → Q (.ref p) (upd H p (.lst vs)) :=
  fun p hp => k (W.fr p) _ _ (Ext.freeze_new hp) (r.freeze_new hp trivial) (.lst (.inr rfl) upd_same ((d.stab (r.stab_new hp)).stab Stab.fr))
theorem DenL.nil_iff {F : Fg} {W : Wd} {H : Hp} {vs : List V} {ds : List D} (h : DenL F W H vs ds) : vs = [] ↔ ds = [] := by
  cases h with
  | nil => simp
  | cons _ _ => simp
end

/-! ### arithmetic -/
section
variable {X : Cx}
def rAddA (F : Fg) : R2 := fun x y H Q => rI0 (fun i j => .int (i + j)) x y H Q ∨ (∃ i j, x = .str i ∧ y = .str j ∧ i.length + j.length ≤ sizeLine ∧ Q (.str (i ++ j)) H) ∨ rCatZ F x y H Q ∨ rCat x y H Q
theorem op_addA : OpR X (binaryOp .Add) (rAddA X.K) := op_add.or (op_add_str.or (op_catZ.or op_cat))
theorem st_append (x y : Nm) : st x ++ st y = st (x ++ y) := by
  show Str.append _ _ = _
  simp [st, Str.append]
theorem pr_add {F : Fg} : Prim2 F (fun _ => dAdd) (rAddA F) := by
  intro W s σ H v u d e z Q r hv hu q k
  cases d with
  | int i =>
    cases e with
    | int j =>
      obtain rfl := hv.int; obtain rfl := hu.int
      cases q
      exact .inl ⟨i, j, rfl, rfl, Ends1.here k r (.int _)⟩
    | _ => cases q
  | str x =>
    cases e with
    | str y =>
      obtain rfl := hv.str; obtain rfl := hu.str
      simp only [dAdd] at q
      split at q
      · rename_i hl
        cases q
        refine .inr (.inl ⟨st x, st y, rfl, rfl, by rw [st_length, st_length]; exact hl, ?_⟩)
        rw [st_append]
        exact Ends1.here k r (.str _)
      · cases q
    | _ => cases q
  | tup x =>
    cases e with
    | tup y =>
      simp only [dAdd] at q
      split at q
      · rename_i hl
        cases q
        obtain ⟨a, vs, rfl, ha, da⟩ := hv.tup
        obtain ⟨b, us, rfl, hb, db⟩ := hu.tup
        refine .inr (.inr (.inl ⟨a, b, vs, us, rfl, rfl, ha.sq, hb.sq, by rw [da.length, db.length]; exact hl, fun z => ?_, fun _ z => ?_, fun _ _ => ?_⟩))
        · have : x = [] := da.nil_iff.mp z
          subst this
          exact Ends1.here k r (.tup hb db)
        · have : y = [] := db.nil_iff.mp z
          subst this
          rw [List.append_nil] at k
          exact Ends1.here k r (.tup ha da)
        · exact Ends1.tup k r (da.append db)
      · cases q
    | _ => cases q
  | lst x =>
    cases e with
    | lst y =>
      simp only [dAdd] at q
      split at q
      · rename_i hl
        cases q
        obtain ⟨a, vs, rfl, ha, da⟩ := hv.lst
        obtain ⟨b, us, rfl, hb, db⟩ := hu.lst
        exact .inr (.inr (.inr ⟨a, b, vs, us, rfl, rfl, ha, hb, by rw [da.length, db.length]; exact hl, Ends1.lst k r (da.append db)⟩))
      · cases q
    | _ => cases q
  | _ => cases q
theorem pr_sub {F : Fg} : Prim2 F (fun _ => dSub) (rI0 fun i j => .int (i - j)) := by
  intro W s σ H v u d e z Q r hv hu q k
  cases d with
  | int i =>
    cases e with
    | int j =>
      obtain rfl := hv.int; obtain rfl := hu.int
      cases q
      exact ⟨i, j, rfl, rfl, Ends1.here k r (.int _)⟩
    | _ => cases q
  | _ => cases q
def rMulA (F : Fg) : R2 := fun x y H Q => rI CMulW (fun i j => .int (i * j)) x y H Q ∨ rRep x y H Q ∨ rRepT F x y H Q
theorem op_mulA : OpR X (binaryOp .Mult) (rMulA X.K) := op_mulW.or (op_rep.or op_repT)
theorem pr_mul {F : Fg} : Prim2 F (fun _ => dMul) (rMulA F) := by
  intro W s σ H v u d e z Q r hv hu q k
  cases d with
  | int i =>
    cases e with
    | int j =>
      simp only [dMul] at q
      split at q
      · rename_i hl
        obtain rfl := hv.int; obtain rfl := hu.int
        cases q
        rw [Bool.and_eq_true] at hl
        have h1 : i.natAbs.log2 < 400000 := of_decide_eq_true hl.1
        have h2 : j.natAbs.log2 < 400000 := of_decide_eq_true hl.2
        exact .inl ⟨i, j, rfl, rfl, by show _ + _ < _; omega, Ends1.here k r (.int _)⟩
      · cases q
    | _ => cases q
  | lst x =>
    cases e with
    | int j =>
      simp only [dMul] at q
      split at q
      · rename_i hl
        obtain rfl := hu.int
        obtain ⟨a, vs, rfl, ha, da⟩ := hv.lst
        cases q
        rw [Bool.and_eq_true, Bool.and_eq_true] at hl
        exact .inr (.inl ⟨a, j, vs, rfl, rfl, ha, of_decide_eq_true hl.1.1, of_decide_eq_true hl.1.2, by rw [da.length]; exact of_decide_eq_true hl.2, Ends1.lst k r (da.flatRep _)⟩)
      · cases q
    | _ => cases q
  | tup x =>
    cases e with
    | int j =>
      simp only [dMul] at q
      split at q
      · rename_i hl
        obtain rfl := hu.int
        obtain ⟨a, vs, rfl, ha, da⟩ := hv.tup
        cases q
        rw [Bool.and_eq_true, Bool.and_eq_true, Bool.and_eq_true, Bool.and_eq_true] at hl
        refine .inr (.inr ⟨a, j, vs, rfl, rfl, ha.sq, fun z => ?_, of_decide_eq_true hl.1.1.2, of_decide_eq_true hl.1.2, by rw [da.length]; exact of_decide_eq_true hl.2, Ends1.tup0 k r (da.flatRep _) (sT_rep (by simpa using hl.1.1.1.1) _)⟩)
        have h0 := hl.1.1.1.2
        rw [da.nil_iff.mp z] at h0
        cases h0
      · cases q
    | _ => cases q
  | _ => cases q
theorem pr_fdiv {F : Fg} : Prim2 F (fun _ => dFdiv) (rI CDivW fun i j => .int (i / j)) := by
  intro W s σ H v u d e z Q r hv hu q k
  cases d with
  | int i =>
    cases e with
    | int j =>
      simp only [dFdiv] at q
      split at q
      · rename_i hl
        obtain rfl := hv.int; obtain rfl := hu.int
        cases q
        rw [Bool.and_eq_true] at hl
        exact ⟨i, j, rfl, rfl, ⟨of_decide_eq_true hl.1, of_decide_eq_true hl.2⟩, Ends1.here k r (.int _)⟩
      · cases q
    | _ => cases q
  | _ => cases q
theorem pr_mod {F : Fg} : Prim2 F (fun _ => dMod) (rI (fun _ j => 0 < j) fun i j => .int (i % j)) := by
  intro W s σ H v u d e z Q r hv hu q k
  cases d with
  | int i =>
    cases e with
    | int j =>
      simp only [dMod] at q
      split at q
      · rename_i hl
        obtain rfl := hv.int; obtain rfl := hu.int
        cases q
        exact ⟨i, j, rfl, rfl, hl, Ends1.here k r (.int _)⟩
      · cases q
    | _ => cases q
  | _ => cases q
theorem pr_pow {F : Fg} : Prim2 F (fun _ => dPow) (rI CPow fun i j => .int (i ^ j.toNat)) := by
  intro W s σ H v u d e z Q r hv hu q k
  cases d with
  | int i =>
    cases e with
    | int j =>
      simp only [dPow] at q
      split at q
      · rename_i hl
        obtain rfl := hv.int; obtain rfl := hu.int
        cases q
        rw [Bool.and_eq_true, Bool.and_eq_true] at hl
        exact ⟨i, j, rfl, rfl, ⟨of_decide_eq_true hl.1.1, of_decide_eq_true hl.1.2, of_decide_eq_true hl.2⟩, Ends1.here k r (.int _)⟩
      · cases q
    | _ => cases q
  | _ => cases q
theorem pr_neg {F : Fg} : Prim1 F (fun _ => dNeg) (rU fun i => .int (-i)) := by
  intro W s σ H v d z Q r hv q k
  cases d with
  | int i =>
    obtain rfl := hv.int
    cases q
    exact ⟨i, rfl, Ends1.here k r (.int _)⟩
  | _ => cases q

/-! ### comparisons -/
theorem lex_lt : ∀ x y : Nm, lexLt x y = decide (x < y)
  | [], [] => by simp [lexLt]
  | [], _ :: _ => by simp [lexLt]
  | _ :: _, [] => by simp [lexLt]
  | x :: xs, y :: ys => by
    rw [lexLt]
    by_cases e : x = y
    · rw [if_pos e, lex_lt xs ys]; subst e; simp [List.cons_lt_cons_iff]
    · rw [if_neg e]; simp [List.cons_lt_cons_iff, e]
def rLtA : R2 := fun x y H Q => rI0 (fun i j => .bl (decide (i < j))) x y H Q ∨ ∃ i j, x = .str i ∧ y = .str j ∧ Q (.bl (decide (i.cps.toList < j.cps.toList))) H
theorem op_ltA : OpR X (compareOp .Lt) rLtA := op_lt.or op_lt_str
theorem pr_lt {F : Fg} : Prim2 F (fun _ => dLt) rLtA := by
  intro W s σ H v u d e z Q r hv hu q k
  cases d with
  | int i =>
    cases e with
    | int j =>
      obtain rfl := hv.int; obtain rfl := hu.int
      cases q
      exact .inl ⟨i, j, rfl, rfl, Ends1.here k r (.bl _)⟩
    | _ => cases q
  | str i =>
    cases e with
    | str j =>
      obtain rfl := hv.str; obtain rfl := hu.str
      cases q
      refine .inr ⟨st i, st j, rfl, rfl, ?_⟩
      rw [st_cps, st_cps, ← lex_lt]
      exact Ends1.here k r (.bl _)
    | _ => cases q
  | _ => cases q
def rGtA : R2 := fun x y H Q => rI0 (fun i j => .bl (decide (j < i))) x y H Q ∨ ∃ i j, x = .str i ∧ y = .str j ∧ Q (.bl (decide (j.cps.toList < i.cps.toList))) H
def rLeA : R2 := fun x y H Q => rI0 (fun i j => .bl (decide (i ≤ j))) x y H Q ∨ ∃ i j, x = .str i ∧ y = .str j ∧ Q (.bl (!decide (j.cps.toList < i.cps.toList))) H
def rGeA : R2 := fun x y H Q => rI0 (fun i j => .bl (decide (j ≤ i))) x y H Q ∨ ∃ i j, x = .str i ∧ y = .str j ∧ Q (.bl (!decide (i.cps.toList < j.cps.toList))) H
theorem op_gtA : OpR X (compareOp .Gt) rGtA := op_gt.or op_gt_str
theorem op_leA : OpR X (compareOp .LtE) rLeA := op_le.or op_le_str
theorem op_geA : OpR X (compareOp .GtE) rGeA := op_ge.or op_ge_str
theorem pr_gt {F : Fg} : Prim2 F (fun _ => dGt) rGtA := by
  intro W s σ H v u d e z Q r hv hu q k
  cases e with
  | int i =>
    cases d with
    | int j =>
      obtain rfl := hv.int; obtain rfl := hu.int
      cases q
      exact .inl ⟨j, i, rfl, rfl, Ends1.here k r (.bl _)⟩
    | _ => cases q
  | str i =>
    cases d with
    | str j =>
      obtain rfl := hv.str; obtain rfl := hu.str
      cases q
      refine .inr ⟨st j, st i, rfl, rfl, ?_⟩
      rw [st_cps, st_cps, ← lex_lt]
      exact Ends1.here k r (.bl _)
    | _ => cases q
  | _ => cases q
theorem pr_le {F : Fg} : Prim2 F (fun _ => dLe) rLeA := by
  intro W s σ H v u d e z Q r hv hu q k
  cases d with
  | int i =>
    cases e with
    | int j =>
      obtain rfl := hv.int; obtain rfl := hu.int
      cases q
      exact .inl ⟨i, j, rfl, rfl, Ends1.here k r (.bl _)⟩
    | _ => cases q
  | str i =>
    cases e with
    | str j =>
      obtain rfl := hv.str; obtain rfl := hu.str
      cases q
      refine .inr ⟨st i, st j, rfl, rfl, ?_⟩
      rw [st_cps, st_cps, ← lex_lt]
      exact Ends1.here k r (.bl _)
    | _ => cases q
  | _ => cases q
theorem pr_ge {F : Fg} : Prim2 F (fun _ => dGe) rGeA := by
  intro W s σ H v u d e z Q r hv hu q k
  cases e with
  | int i =>
    cases d with
    | int j =>
      obtain rfl := hv.int; obtain rfl := hu.int
      cases q
      exact .inl ⟨j, i, rfl, rfl, Ends1.here k r (.bl _)⟩
    | _ => cases q
  | str i =>
    cases d with
    | str j =>
      obtain rfl := hv.str; obtain rfl := hu.str
      cases q
      refine .inr ⟨st j, st i, rfl, rfl, ?_⟩
      rw [st_cps, st_cps, ← lex_lt]
      exact Ends1.here k r (.bl _)
    | _ => cases q
  | _ => cases q
mutual
theorem same_eq : ∀ {a b : D}, same a b = true → a = b
  | .non, .non, _ => rfl
  | .bl a, .bl b, h => by rw [eq_of_beq (show (a == b) = true from h)]
  | .int a, .int b, h => by rw [eq_of_beq (show (a == b) = true from h)]
  | .str a, .str b, h => by rw [eq_of_beq (show (a == b) = true from h)]
  | .lst a, .lst b, h => by rw [sameL_eq (show sameL a b = true from h)]
  | .tup a, .tup b, h => by rw [sameL_eq (show sameL a b = true from h)]
theorem sameL_eq : ∀ {a b : List D}, sameL a b = true → a = b
  | [], [], _ => rfl
  | x :: xs, y :: ys, h => by
    have h : (same x y && sameL xs ys) = true := h
    rw [Bool.and_eq_true] at h
    rw [same_eq h.1, sameL_eq h.2]
end
def rEqA (F : Fg) : R2 := fun x y H Q => rEqD F x y H Q ∨ rEq x y H Q
def rNeA (F : Fg) : R2 := fun x y H Q => rNeD F x y H Q ∨ rNe x y H Q
theorem op_eqA (hu : X.A.units + 200 < cLine) : OpR X (compareOp .Eq) (rEqA X.K) := (op_eqD (by omega)).or op_eq
theorem op_neA (hu : X.A.units + 200 < cLine) : OpR X (compareOp .NotEq) (rNeA X.K) := (op_neD (by omega)).or op_ne
theorem eq_any {F : Fg} {W : Wd} {H : Hp} {v u : V} {d e : D} {b : Bool} (hv : DenC F W H v d) (hu : DenC F W H u e) (q : eq? d e = some b) :
    (∃ x y, Dp F H v x ∧ Dp F H u y ∧ SeqAt.shaped x = true ∧ SeqAt.shaped y = true ∧ b = PyData.eqv x y) ∨ scal v u = true ∧ b = decide (v = u) := by
  have gen : (plain d && plain e) = true → eqv d e = b → ∃ x y, Dp F H v x ∧ Dp F H u y ∧ SeqAt.shaped x = true ∧ SeqAt.shaped y = true ∧ b = PyData.eqv x y := fun hl e1 => by
    rw [Bool.and_eq_true] at hl
    exact ⟨py d, py e, hv.dp hl.1, hu.dp hl.2, shaped_py hl.1, shaped_py hl.2, by rw [← e1]; exact eqv_py 40 d e hl.1 hl.2⟩
  unfold eq? at q
  split at q
  · obtain rfl := hv.str; obtain rfl := hu.str
    rename_i a c
    cases q
    refine .inr ⟨rfl, ?_⟩
    rw [dec_str]
    by_cases e : a = c
    · subst e; simp
    · have h1 : (a == c) = false := beq_eq_false_iff_ne.mpr e
      have h2 : (st a == st c) = false := beq_eq_false_iff_ne.mpr fun z => e (st_inj z)
      rw [h1, h2]
  · rename_i a c
    split at q
    · rename_i hs
      cases q
      obtain rfl := hv.repV; obtain rfl := hu.repV
      have e := same_eq hs
      subst e
      exact .inr ⟨rfl, by simp⟩
    · cases q
  · split at q
    · rename_i hl
      cases q
      exact .inl (gen hl rfl)
    · cases q
theorem pr_eq {F : Fg} : Prim2 F (fun _ => dEq) (rEqA F) := by
  intro W s σ H v u d e z Q r hv hu q k
  cases q1 : eq? d e with
  | none => simp only [dEq, q1] at q; cases q
  | some b =>
    simp only [dEq, q1] at q
    cases q
    have h := Ends1.here k r (.bl b)
    rcases eq_any hv hu q1 with ⟨x, y, h1, h2, h3, h4, e1⟩ | ⟨h1, e1⟩
    · exact .inl ⟨x, y, h1, h2, h3, h4, e1 ▸ h⟩
    · exact .inr ⟨h1, e1 ▸ h⟩
theorem pr_ne {F : Fg} : Prim2 F (fun _ => dNe) (rNeA F) := by
  intro W s σ H v u d e z Q r hv hu q k
  cases q1 : eq? d e with
  | none => simp only [dNe, q1] at q; cases q
  | some b =>
    simp only [dNe, q1] at q
    cases q
    have h := Ends1.here k r (.bl (!b))
    rcases eq_any hv hu q1 with ⟨x, y, h1, h2, h3, h4, e1⟩ | ⟨h1, e1⟩
    · exact .inl ⟨x, y, h1, h2, h3, h4, e1 ▸ h⟩
    · exact .inr ⟨h1, e1 ▸ h⟩
theorem DenC.isNon {F : Fg} {W : Wd} {H : Hp} {v : V} {d : D} (h : DenC F W H v d) : decide (v = V.non) = (match d with | .non => true | _ => false) := by
  rcases h with h | ⟨a, rfl, h⟩
  · cases h <;> rfl
  · cases d <;> first | rfl | exact h.elim
def rIsN1 : V → Hp → VK → Prop := fun x H Q => Q (.bl (decide (x = .non))) H
def rNotN1 : V → Hp → VK → Prop := fun x H Q => Q (.bl (!decide (x = .non))) H
theorem pr_isN {F : Fg} : Prim1 F (fun _ => dIsN) rIsN1 := by
  intro W s σ H v d z Q r hv q k
  unfold rIsN1
  rw [hv.isNon]
  cases d <;> (cases q; exact Ends1.here k r (.bl _))
theorem pr_notN {F : Fg} : Prim1 F (fun _ => dNotN) rNotN1 := by
  intro W s σ H v d z Q r hv q k
  unfold rNotN1
  rw [hv.isNon]
  cases d <;> (cases q; exact Ends1.here k r (.bl _))
end

/-! ### dicts -/
section
variable {F : Fg} {W : Wd} {H : Hp}
theorem DenK.get : ∀ {v : List (Key × V)} {l : List (K × D)} (k : K), DenK F W H v l → match dget l k with
    | some d => ∃ y, valV v (kk k) = some y ∧ Den F W H y d
    | none => valV v (kk k) = none
  | _, _, k, .nil => rfl
  | _, _, k, .cons (k := j) (d := d) h r => by
    rw [dget]
    by_cases e : j = k
    · rw [if_pos e]
      subst e
      exact ⟨_, valV_pos rfl, h⟩
    · rw [if_neg e]
      have e2 : ¬ kk j = kk k := fun z => e (kk_inj z)
      rw [valV_neg (p := (kk j, _)) e2]
      exact DenK.get k r
theorem mapkk_inj : ∀ {a b : List K}, a.map kk = b.map kk → a = b
  | [], [], _ => rfl
  | [], _ :: _, h => by simp at h
  | _ :: _, [], h => by simp at h
  | x :: a, y :: b, h => by
    rw [List.map_cons, List.map_cons, List.cons.injEq] at h
    rw [kk_inj h.1, mapkk_inj h.2]
theorem DenT.get : ∀ {v : List (List Key × V)} {l : List (List K × D)} (k : List K), DenT F W H v l → match dget l k with
    | some d => ∃ y, valV v (k.map kk) = some y ∧ Den F W H y d
    | none => valV v (k.map kk) = none
  | _, _, k, .nil => rfl
  | _, _, k, .cons (k := j) (d := d) h r => by
    rw [dget]
    by_cases e : j = k
    · rw [if_pos e]
      subst e
      exact ⟨_, valV_pos rfl, h⟩
    · rw [if_neg e]
      have e2 : ¬ j.map kk = k.map kk := fun z => e (mapkk_inj z)
      rw [valV_neg (p := (j.map kk, _)) e2]
      exact DenT.get k r
theorem DenC.key {y : V} {d : D} {k : K} (h : DenC F W H y d) (e : key? d = some k) : y = kV (kk k) := by
  cases d <;> simp only [key?, Option.some.injEq, reduceCtorEq] at e
  · subst e; exact h.int
  · subst e; exact h.str
theorem DenL.keys : ∀ {vs : List V} {ds : List D} {ks : List K}, DenL F W H vs ds → ds.mapM key? = some ks → vs = (ks.map kk).map kV
  | _, _, ks, .nil, e => by
    have : ks = [] := by simpa using e.symm
    rw [this]; rfl
  | _, _, ks, .cons (d := d) (ds := ds) h r, e => by
    rw [List.mapM_cons] at e
    cases q : key? d with
    | none => rw [q] at e; simp at e
    | some k =>
      cases q2 : ds.mapM key? with
      | none => rw [q, q2] at e; simp at e
      | some m =>
        rw [q, q2] at e
        have : ks = k :: m := by simpa using e.symm
        subst this
        rw [List.map_cons, List.map_cons, DenC.key (.inl h) q, DenL.keys r q2]
theorem DenC.keyT {y : V} {d : D} {k : List K} (h : DenC F W H y d) (e : keys? d = some k) : ∃ b, y = .ref b ∧ H b = some (.tup ((k.map kk).map kV)) := by
  cases d <;> simp only [keys?, reduceCtorEq] at e
  obtain ⟨a, vs, rfl, ha, r⟩ := h.tup
  refine ⟨a, rfl, ?_⟩
  split at e
  · cases e
  rename_i z
  rcases ha with ha | ha
  · exact absurd ha.1 z
  rw [ha.2, r.keys e]
/-- the dict in hand, at the key -/
theorem DenC.dg {v y : V} {l : List (K × D)} {e : D} {k : K} (h : DenC F W H v (.dic l)) (hy : DenC F W H y e) (ke : key? e = some k) : ∃ a o, v = .ref a ∧ DGet H a y o ∧ match dget l k with
    | some d => ∃ x, o = some x ∧ Den F W H x d
    | none => o = none := by
  obtain ⟨a, vs, rfl, ha, r⟩ := h.dic
  refine ⟨a, valV vs (kk k), rfl, ?_, r.get k⟩
  rw [hy.key ke]
  exact .inl ⟨vs, kk k, ha, rfl, rfl⟩
theorem DenC.dgT {v y : V} {l : List (List K × D)} {e : D} {k : List K} (h : DenC F W H v (.dit l)) (hy : DenC F W H y e) (ke : keys? e = some k) : ∃ a o, v = .ref a ∧ DGet H a y o ∧ match dget l k with
    | some d => ∃ x, o = some x ∧ Den F W H x d
    | none => o = none := by
  obtain ⟨a, vs, rfl, ha, r⟩ := h.dit
  obtain ⟨b, rfl, hb⟩ := hy.keyT ke
  exact ⟨a, valV vs (k.map kk), rfl, .inr ⟨vs, k.map kk, b, ha, rfl, hb, rfl⟩, r.get k⟩
/-- a shared one -/
theorem HRel.ob {h : List Ob} (r : HRel F W h H) {n : Nat} {a : Addr} {o : Ob} (e : W.ref n = some a) (q : h[n]? = some o) : DenC F W H (.ref a) (obD o) := by
  obtain ⟨_, o', q', w⟩ := r.refs n a e
  rw [q] at q'; cases q'
  exact .inr ⟨a, rfl, w⟩
end

/-! ### x in y, x[y] -/
section
variable {X : Cx}
def rInT (F : Fg) : R2 := fun x y H Q => ∃ (d : PyData) (ds : List PyData), Dp F H x d ∧ Dp F H y (.tuple ds) ∧ SeqAt.shaped d = true ∧ SeqAt.shaped (.list ds) = true ∧ Q (.bl (ds.any fun z => PyData.eqv z d)) H
def rNiT (F : Fg) : R2 := fun x y H Q => ∃ (d : PyData) (ds : List PyData), Dp F H x d ∧ Dp F H y (.tuple ds) ∧ SeqAt.shaped d = true ∧ SeqAt.shaped (.list ds) = true ∧ Q (.bl (!ds.any fun z => PyData.eqv z d)) H
theorem lay_list {ds : List PyData} (h : SeqAt.shaped (.list ds) = true) : PyData.canLayAll0 ds = true := by
  have := SeqAt.canLay_of_shaped h
  simpa only [PyData.canLay0] using this
theorem room_T {A : Around} {d : PyData} {n : Nat} (h : SeqAt.shaped d = true) (hu : A.units + 200 < cLine) : A.units + 1 + min n d.depth < cLine := by
  have h1 := SeqAt.depth_of_shaped h
  have h2 : min n d.depth ≤ d.depth := Nat.min_le_right _ _
  omega
theorem op_inT (hu : X.A.units + 200 < cLine) : OpR X (compareOp .In) (rInT X.K) := by
  intro pins s σ H x y v u Q I rx ry ⟨d, ds, hd, he, sd, se, q⟩
  obtain ⟨as, r1⟩ := Dp.reads I d x v hd rx
  obtain ⟨bs, r2⟩ := Dp.reads I (.tuple ds) y u he ry
  exact SeqAt.in_tuple_reads r2 r1 (lay_list se) (SeqAt.canLay_of_shaped sd) (room_T sd hu) ⟨.bl _, H, I, rfl, q⟩
theorem op_niT (hu : X.A.units + 200 < cLine) : OpR X (compareOp .NotIn) (rNiT X.K) := by
  intro pins s σ H x y v u Q I rx ry ⟨d, ds, hd, he, sd, se, q⟩
  obtain ⟨as, r1⟩ := Dp.reads I d x v hd rx
  obtain ⟨bs, r2⟩ := Dp.reads I (.tuple ds) y u he ry
  exact SeqAt.notIn_tuple_reads r2 r1 (lay_list se) (SeqAt.canLay_of_shaped sd) (room_T sd hu) ⟨.bl _, H, I, rfl, q⟩
def rInG : R2 := fun x y H Q => ∃ a o, y = .ref a ∧ DGet H a x o ∧ Q (.bl o.isSome) H
def rNiG : R2 := fun x y H Q => ∃ a o, y = .ref a ∧ DGet H a x o ∧ Q (.bl (!o.isSome)) H
theorem op_inG (hu : X.A.units + 200 < cLine) : OpR X (compareOp .In) rInG := by
  intro pins s σ H x y v u Q I rx ry ⟨a, o, ey, g, q⟩
  subst ey
  obtain rfl : u = Value.ref a := ry
  exact d_in (by omega) I g rx fun s' I' => ⟨.bl _, H, I', rfl, q⟩
theorem op_niG (hu : X.A.units + 200 < cLine) : OpR X (compareOp .NotIn) rNiG := by
  intro pins s σ H x y v u Q I rx ry ⟨a, o, ey, g, q⟩
  subst ey
  obtain rfl : u = Value.ref a := ry
  exact d_notIn (by omega) I g rx fun s' I' => ⟨.bl _, H, I', rfl, q⟩
def rInS : R2 := fun x y H Q => ∃ (c : Nat) (z : Str), x = .str ⟨#[c]⟩ ∧ y = .str z ∧ Q (.bl (decide (c ∈ z.cps.toList))) H
def rNiS : R2 := fun x y H Q => ∃ (c : Nat) (z : Str), x = .str ⟨#[c]⟩ ∧ y = .str z ∧ Q (.bl (!decide (c ∈ z.cps.toList))) H
def rInA (F : Fg) : R2 := fun x y H Q => rInD F x y H Q ∨ rInT F x y H Q ∨ rInG x y H Q ∨ rInS x y H Q
def rNiA (F : Fg) : R2 := fun x y H Q => rNotInD F x y H Q ∨ rNiT F x y H Q ∨ rNiG x y H Q ∨ rNiS x y H Q
theorem op_inA (hu : X.A.units + 200 < cLine) : OpR X (compareOp .In) (rInA X.K) := (op_inD (by omega)).or ((op_inT hu).or ((op_inG hu).or op_in_sign))
theorem op_niA (hu : X.A.units + 200 < cLine) : OpR X (compareOp .NotIn) (rNiA X.K) := (op_notInD (by omega)).or ((op_niT hu).or ((op_niG hu).or op_notIn_sign))
theorem any_py {x : D} : ∀ {l : List D}, plain x = true → l.all plain = true → (l.any fun y => eqv y x) = (pyL l).any fun z => PyData.eqv z (py x)
  | [], _, _ => rfl
  | y :: r, hx, hl => by
    rw [List.all_cons, Bool.and_eq_true] at hl
    rw [pyL, List.any_cons, List.any_cons, any_py hx hl.2, eqv_py 40 y x hl.1 hx]
theorem inL_some {x : D} {l : List D} {b : Bool} (h : inL x l = some b) : plain x = true ∧ l.all plain = true ∧ b = (pyL l).any fun z => PyData.eqv z (py x) := by
  unfold inL at h
  split at h
  · rename_i hl
    rw [Bool.and_eq_true] at hl
    cases h
    exact ⟨hl.1, hl.2, any_py hl.1 hl.2⟩
  · cases h
theorem map_bl {o : Option Bool} {z : D} (h : o.map D.bl = some z) : ∃ b, o = some b ∧ z = .bl b := by
  cases o with
  | none => cases h
  | some b => cases h; exact ⟨b, rfl, rfl⟩
theorem DenL.dpL {F : Fg} {W : Wd} {H : Hp} {vs : List V} {l : List D} (h : DenL F W H vs l) (z : l.all plain = true) : DpAll F H vs (pyL l) := h.dp 40 z
/-- one analysis for in and not in -/
theorem in_any {F : Fg} {W : Wd} {s : S} {σ : St} {H : Hp} {v u : V} {d e z : D} (r : Rel F W s σ H) (hv : DenC F W H v d) (hu : DenC F W H u e) (q : dIn s.h d e = some z) :
    ∃ b, z = .bl b ∧ ∀ (Q : VK) (f : Bool → Bool), Q (.bl (f b)) H →
      (∃ (d : PyData) (ds : List PyData), Dp F H v d ∧ Dp F H u (.list ds) ∧ SeqAt.shaped d = true ∧ SeqAt.shaped (.list ds) = true ∧ Q (.bl (f (ds.any fun z => PyData.eqv z d))) H) ∨
      (∃ (d : PyData) (ds : List PyData), Dp F H v d ∧ Dp F H u (.tuple ds) ∧ SeqAt.shaped d = true ∧ SeqAt.shaped (.list ds) = true ∧ Q (.bl (f (ds.any fun z => PyData.eqv z d))) H) ∨
      (∃ a o, u = .ref a ∧ DGet H a v o ∧ Q (.bl (f o.isSome)) H) ∨
      ∃ (c : Nat) (z : Str), v = .str ⟨#[c]⟩ ∧ u = .str z ∧ Q (.bl (f (decide (c ∈ z.cps.toList)))) H := by
  have dic : ∀ {l : List (K × D)} {w : V} (hw : DenC F W H w (.dic l)) (q : (match key? d with | some k => some (D.bl (dget l k).isSome) | none => none) = some z), w = u →
      ∃ b, z = .bl b ∧ ∀ (Q : VK) (f : Bool → Bool), Q (.bl (f b)) H → ∃ a o, u = .ref a ∧ DGet H a v o ∧ Q (.bl (f o.isSome)) H := by
    intro l w hw q ew
    subst ew
    cases qk : key? d with
    | none => rw [qk] at q; cases q
    | some k =>
      rw [qk] at q
      cases q
      refine ⟨_, rfl, fun Q f h => ?_⟩
      obtain ⟨a, o, e1, g, m⟩ := hw.dg hv qk
      refine ⟨a, o, e1, g, ?_⟩
      cases q2 : dget l k with
      | none => rw [q2] at m h; rw [m]; exact h
      | some y => rw [q2] at m h; obtain ⟨x, e2, _⟩ := m; rw [e2]; exact h
  have dit : ∀ {l : List (List K × D)} {w : V} (hw : DenC F W H w (.dit l)) (q : (match keys? d with | some k => some (D.bl (dget l k).isSome) | none => none) = some z), ∃ b, z = .bl b ∧ ∀ (Q : VK) (f : Bool → Bool), Q (.bl (f b)) H → ∃ a o, w = .ref a ∧ DGet H a v o ∧ Q (.bl (f o.isSome)) H := by
    intro l w hw q
    cases qk : keys? d with
    | none => rw [qk] at q; cases q
    | some k =>
      rw [qk] at q
      cases q
      refine ⟨_, rfl, fun Q f h => ?_⟩
      obtain ⟨a, o, e1, g, m⟩ := hw.dgT hv qk
      refine ⟨a, o, e1, g, ?_⟩
      cases q2 : dget l k with
      | none => rw [q2] at m h; rw [m]; exact h
      | some y => rw [q2] at m h; obtain ⟨x, e2, _⟩ := m; rw [e2]; exact h
  cases e with
  | tup l =>
    obtain ⟨b, q1, rfl⟩ := map_bl q
    obtain ⟨h1, h2, rfl⟩ := inL_some q1
    refine ⟨_, rfl, fun Q f h => .inr (.inl ⟨py d, pyL l, hv.dp h1, ?_, shaped_py h1, shapedL_py h2, h⟩)⟩
    obtain ⟨a, vs, rfl, ha, rl⟩ := hu.tup
    exact .tup ha.sq (rl.dpL h2)
  | frt l =>
    obtain ⟨b, q1, rfl⟩ := map_bl q
    obtain ⟨h1, h2, rfl⟩ := inL_some q1
    refine ⟨_, rfl, fun Q f h => .inr (.inl ⟨py d, pyL l, hv.dp h1, ?_, shaped_py h1, shapedL_py h2, h⟩)⟩
    obtain ⟨a, vs, rfl, ha, rl⟩ := hu.frt
    exact .tup ha (rl.dpL h2)
  | lst l =>
    obtain ⟨b, q1, rfl⟩ := map_bl q
    obtain ⟨h1, h2, rfl⟩ := inL_some q1
    refine ⟨_, rfl, fun Q f h => .inl ⟨py d, pyL l, hv.dp h1, ?_, shaped_py h1, shapedL_py h2, h⟩⟩
    obtain ⟨a, vs, rfl, ha, rl⟩ := hu.lst
    exact .lst (SqL.of ha) (rl.dpL h2)
  | str t =>
    cases d with
    | str x =>
      obtain ⟨b, q1, rfl⟩ := map_bl q
      match x, q1 with
      | [c], q1 =>
        cases q1
        refine ⟨_, rfl, fun Q f h => .inr (.inr (.inr ⟨c, st t, ?_, hu.str, ?_⟩))⟩
        · rw [hv.str]; rfl
        · rw [st_cps]
          rw [List.contains_eq_mem] at h
          exact h
    | _ => cases q
  | dic l =>
    obtain ⟨b, e1, e2⟩ := dic hu q rfl
    exact ⟨b, e1, fun Q f h => .inr (.inr (.inl (e2 Q f h)))⟩
  | dit l =>
    obtain ⟨b, e1, e2⟩ := dit hu q
    exact ⟨b, e1, fun Q f h => .inr (.inr (.inl (e2 Q f h)))⟩
  | ref n =>
    obtain ⟨a, rfl, e1⟩ := hu.ref
    have q : (match s.h[n]? with
      | some (.dic l) => (match key? d with | some k => some (D.bl (dget l k).isSome) | none => none)
      | some (.dit l) => (match keys? d with | some k => some (D.bl (dget l k).isSome) | none => none)
      | _ => none) = some z := q
    cases qo : s.h[n]? with
    | none => rw [qo] at q; cases q
    | some o =>
      rw [qo] at q
      cases o with
      | lst l => cases q
      | dic l =>
        obtain ⟨b, e1, e2⟩ := dic (r.hp.ob e1 qo) q rfl
        exact ⟨b, e1, fun Q f h => .inr (.inr (.inl (e2 Q f h)))⟩
      | dit l =>
        obtain ⟨b, e1, e2⟩ := dit (r.hp.ob e1 qo) q
        exact ⟨b, e1, fun Q f h => .inr (.inr (.inl (e2 Q f h)))⟩
  | _ => cases q
theorem pr_in {F : Fg} : Prim2 F dIn (rInA F) := by
  intro W s σ H v u d e z Q r hv hu q k
  obtain ⟨b, rfl, h⟩ := in_any r hv hu q
  exact h Q id (Ends1.here k r (.bl _))
theorem pr_notIn {F : Fg} : Prim2 F dNotIn (rNiA F) := by
  intro W s σ H v u d e z Q r hv hu q k
  unfold dNotIn at q
  cases q1 : dIn s.h d e with
  | none => rw [q1] at q; cases q
  | some y =>
    rw [q1] at q
    obtain ⟨b, rfl, h⟩ := in_any r hv hu q1
    cases q
    exact h Q (fun b => !b) (Ends1.here k r (.bl _))
end
end Cy

set_option Elab.async false
set_option linter.all false
set_option maxRecDepth 100000
/-! Cy over the hand layer: places, slices, lengths, built-in functions. -/
namespace Cy
open L2 PySem PySem.Spec PyProof.Rows

section
variable {X : Cx}
/-! ### x[y] -/
def rIxG : R2 := fun x y H Q => ∃ a v, x = .ref a ∧ DGet H a y (some v) ∧ Q v H
theorem ix_dict (hu : X.A.units + 200 < cLine) : IxR X rIxG := by
  intro value slice pins s σ H x y v u Q I rx ry ⟨a, z, ex, g, q⟩ hs
  subst ex
  obtain rfl : v = Value.ref a := rx
  exact tail_any (dict_typeIs I g) PySem.F.slot_dict_getitem.lookup (d_getItem (by omega) I g ry fun w' s' I' rw' => ⟨z, H, I', rw', q⟩) hs
def rIxA (F : Fg) : R2 := fun x y H Q => rIx F x y H Q ∨ rIxG x y H Q
theorem ix_any (hu : X.A.units + 200 < cLine) : IxR X (rIxA X.K) := ix_seq.or (ix_dict hu)
theorem ixN_eq (n : Nat) (i : Int) : L2.ixN n i = ixN n i := rfl
theorem DenL.atI {F : Fg} {W : Wd} {H : Hp} {vs : List V} {l : List D} (h : DenL F W H vs l) {i : Int} {d : D} (e : atI l i = some d) : ∃ v, L2.atI vs i = some v ∧ Den F W H v d := by
  unfold Cy.atI at e
  rw [← h.length] at e
  unfold L2.atI
  rw [ixN_eq]
  cases q : ixN vs.length i with
  | none => rw [q] at e; cases e
  | some j =>
    rw [q] at e
    exact h.get e
theorem pr_ix {F : Fg} : Prim2 F dIx (rIxA F) := by
  intro W s σ H v u d e z Q r hv hu q k
  have dic : ∀ {l : List (K × D)} {w : V} (hw : DenC F W H w (.dic l)) (q : ixK l e = some z), w = v → rIxA F v u H Q := by
    intro l w hw q ew
    subst ew
    unfold ixK at q
    cases qk : key? e with
    | none => rw [qk] at q; cases q
    | some k' =>
      rw [qk] at q
      have q : dget l k' = some z := q
      obtain ⟨a, o, e1, g, m⟩ := hw.dg hu qk
      rw [q] at m
      obtain ⟨x, e2, dx⟩ := m
      subst e2
      exact .inr ⟨a, x, e1, g, Ends1.here k r dx⟩
  have dit : ∀ {l : List (List K × D)} {w : V} (hw : DenC F W H w (.dit l)) (q : ixT l e = some z), w = v → rIxA F v u H Q := by
    intro l w hw q ew
    subst ew
    unfold ixT at q
    cases qk : keys? e with
    | none => rw [qk] at q; cases q
    | some k' =>
      rw [qk] at q
      have q : dget l k' = some z := q
      obtain ⟨a, o, e1, g, m⟩ := hw.dgT hu qk
      rw [q] at m
      obtain ⟨x, e2, dx⟩ := m
      subst e2
      exact .inr ⟨a, x, e1, g, Ends1.here k r dx⟩
  cases d with
  | tup l =>
    cases e with
    | int i =>
      obtain ⟨a, vs, rfl, ha, dl⟩ := hv.tup
      obtain rfl := hu.int
      obtain ⟨y, h1, h2⟩ := dl.atI q
      exact .inl (.inr (.inl ⟨a, vs, i, y, rfl, rfl, ha.sq, h1, Ends1.here k r h2⟩))
    | _ => cases q
  | frt l =>
    cases e with
    | int i =>
      obtain ⟨a, vs, rfl, ha, dl⟩ := hv.frt
      obtain rfl := hu.int
      obtain ⟨y, h1, h2⟩ := dl.atI q
      exact .inl (.inr (.inl ⟨a, vs, i, y, rfl, rfl, ha, h1, Ends1.here k r h2⟩))
    | _ => cases q
  | lst l =>
    cases e with
    | int i =>
      obtain ⟨a, vs, rfl, ha, dl⟩ := hv.lst
      obtain rfl := hu.int
      obtain ⟨y, h1, h2⟩ := dl.atI q
      exact .inl (.inl ⟨a, vs, i, y, rfl, rfl, SqL.of ha, h1, Ends1.here k r h2⟩)
    | _ => cases q
  | fro l =>
    cases e with
    | int i =>
      obtain ⟨a, vs, rfl, ha, dl⟩ := hv.fro
      obtain rfl := hu.int
      obtain ⟨y, h1, h2⟩ := dl.atI q
      exact .inl (.inl ⟨a, vs, i, y, rfl, rfl, ha, h1, Ends1.here k r h2⟩)
    | _ => cases q
  | str t =>
    cases e with
    | int i =>
      obtain rfl := hv.str
      obtain rfl := hu.int
      have q : (if t.length ≤ lim then (match ixN t.length i with | some j => (match t[j]? with | some c => some (D.str [c]) | none => none) | none => none) else none) = some z := q
      split at q
      · rename_i hl
        cases q1 : ixN t.length i with
        | none => rw [q1] at q; cases q
        | some j =>
          rw [q1] at q
          cases q2 : t[j]? with
          | none => simp only [q2] at q; cases q
          | some c =>
            simp only [q2] at q
            cases q
            refine .inl (.inr (.inr ⟨st t, i, c, rfl, rfl, by rw [st_length]; exact hl, ?_, Ends1.here k r (.str [c])⟩))
            rw [st_cps]
            unfold L2.atI
            rw [ixN_eq, q1]
            exact q2
      · cases q
    | _ => cases q
  | dic l => exact dic hv q rfl
  | dit l => exact dit hv q rfl
  | ref n =>
    obtain ⟨a, rfl, e1⟩ := hv.ref
    have q : (match s.h[n]? with
      | some (.dic l) => ixK l e
      | some (.lst l) => ixL l e
      | some (.dit l) => ixT l e
      | none => none) = some z := q
    cases qo : s.h[n]? with
    | none => rw [qo] at q; cases q
    | some o =>
      rw [qo] at q
      cases o with
      | dic l => exact dic (r.hp.ob e1 qo) q rfl
      | dit l => exact dit (r.hp.ob e1 qo) q rfl
      | lst l =>
        cases e with
        | int i =>
          obtain ⟨b, vs, eb, ha, dl⟩ := (r.hp.ob e1 qo).lst
          obtain rfl := hu.int
          obtain ⟨y, h1, h2⟩ := dl.atI q
          exact .inl (.inl ⟨b, vs, i, y, eb, rfl, SqL.of ha, h1, Ends1.here k r h2⟩)
        | _ => cases q
  | _ => cases q

/-! ### slices -/
def rSlAll (F : Fg) : V → Option Int → Option Int → Hp → VK → Prop := fun x lo hi H Q => rSlL F x lo hi H Q ∨ rSlZ F x lo hi H Q ∨ rSlS x lo hi H Q
theorem sl_all : SlR X (rSlAll X.K) := sl_list.or (sl_tupZ.or sl_str)
theorem sIx_eq (n d : Nat) (o : Option Int) : HT.sIx n d o = sIx n d o := by cases o <;> rfl
theorem DenL.cutV {F : Fg} {W : Wd} {H : Hp} {vs : List V} {l : List D} (h : DenL F W H vs l) (lo hi : Option Int) : DenL F W H (L2.cutV vs lo hi) (cut l lo hi) := by
  unfold L2.cutV cut
  rw [sIx_eq, sIx_eq, h.length]
  exact (h.drop _).take _
theorem cut_whole {α : Type} (l : List α) {lo hi : Option Int} (h1 : sIx l.length 0 lo = 0) (h2 : sIx l.length l.length hi = l.length) : cut l lo hi = l := by
  unfold cut
  rw [h1, h2]
  simp
theorem pr_cut {F : Fg} {W : Wd} {s : S} {σ : St} {H : Hp} {v : V} {d z : D} {lo hi : Option Int} {Q : VK} (r : Rel F W s σ H) (hv : DenC F W H v d) (q : dCut d lo hi = some z) (k : Ends1 F W s σ H z Q) : rSlAll F v lo hi H Q := by
  cases d with
  | tup l =>
    obtain ⟨a, vs, rfl, ha, dl⟩ := hv.tup
    cases q
    refine .inr (.inl ⟨a, vs, rfl, ha.sq, fun ⟨h1, h2⟩ => ?_, fun _ => Ends1.tup k r (dl.cutV lo hi)⟩)
    rw [sIx_eq, dl.length] at h1 h2
    rw [cut_whole l h1 h2] at k
    exact Ends1.here k r (.tup ha dl)
  | lst l =>
    obtain ⟨a, vs, rfl, ha, dl⟩ := hv.lst
    cases q
    exact .inl ⟨a, vs, rfl, SqL.of ha, Ends1.lst k r (dl.cutV lo hi)⟩
  | fro l =>
    obtain ⟨a, vs, rfl, ha, dl⟩ := hv.fro
    cases q
    exact .inl ⟨a, vs, rfl, ha, Ends1.lst k r (dl.cutV lo hi)⟩
  | str l =>
    obtain rfl := hv.str
    simp only [dCut] at q
    split at q
    · rename_i hl
      cases q
      refine .inr (.inr ⟨st l, rfl, by rw [st_length]; exact hl, ?_⟩)
      have e : cutS (st l) lo hi = st (cut l lo hi) := by
        unfold cutS cut
        rw [sIx_eq, sIx_eq, st_cps, st_length]
        rfl
      rw [e]
      exact Ends1.here k r (.str _)
    · cases q
  | _ => cases q
end
def tpt (F : Fg) (Wx : WX) (g : G) : Option Ex → TO
  | none => tNoPart
  | some e => tPart (tev F Wx g e)
section
variable {γ δ : Type} {F : Fg} {Wx : WX} {De2 : Wd → Hp → δ → γ → Prop} {W : Wd} {s : S} {σ : St} {H : Hp} {Q2 : δ → Hp → Prop} {g : G}
theorem tpt_bind {o : Option Ex} {f : Option Int → S → Res γ} {Q : Option Int → Hp → Prop} (r : Rel F W s σ H) (p : Post F Wx De2 W s σ H Q2 ((partE o g s).bind f))
    (k : ∀ d s1 W1 H1, Ext W s σ H W1 s1 σ H1 → Rel F W1 s1 σ H1 → Post F Wx De2 W1 s1 σ H1 Q2 (f d s1) → Q d H1) : tpt F Wx g o σ H Q := by
  cases o with
  | none => exact k none s W H Ext.refl r p
  | some e =>
    have p : Post F Wx De2 W s σ H Q2 (((e g s).bind fun x s => match x with
      | .int i => Res.ok (some i) s
      | _ => .bad).bind f) := p
    refine tr_bind (De := Den F) (f := fun x s => (match x with
      | .int i => Res.ok (some i) s
      | _ => .bad : Res (Option Int)).bind f) r (by
        cases q : e g s with
        | bad => rw [q] at p; exact p
        | ok d s1 => rw [q] at p; exact p
        | exc x s1 => rw [q] at p; exact p) fun d s1 W1 H1 v e1 r1 d1 p1 => ?_
    cases d with
    | int i => exact ⟨i, d1.intv, k _ s1 W1 H1 e1 r1 p1⟩
    | _ => exact p1.elim
end
section
variable {X : Cx} {Wx : WX} {g : G} {pos p2 : Pos} {e a b : Expr} {oa ob : Op}
theorem so_pk {i : Nat} {x : Str} (hN : X.N[i]? = some x) (hv : Vis X.env.scope x) (hd : (x == ("__debug__" : Str)) = false) (hcd : (x == ("__classdict__" : Str)) = false) : PE X (.Name x pos) (top X.K Wx g (.pk i)) := pe_var (i := i) hN hv hd hcd
theorem so_ex {c : Ex} (h : PE X e (tev X.K Wx g c)) : PE X e (top X.K Wx g (.ex c)) := h
theorem se_bin {op : Operator} {f : List Ob → D → D → Option D} {r : R2} (ho : OpR X (binaryOp op) r) (pr : Prim2 X.K f r) (ha : PE X a (top X.K Wx g oa)) (hb : PE X b (top X.K Wx g ob)) : PE X (.BinOp a op b pos) (tev X.K Wx g (o2 f oa ob)) :=
  (pe_op ho ha hb).mono fun _ _ _ h => rd_two pr h
theorem se_un {op : UnaryOp} {f : List Ob → D → Option D} {r : V → Hp → VK → Prop} (ho : UnR X (unaryOp op) r) (pr : Prim1 X.K f r) (ha : PE X a (top X.K Wx g oa)) : PE X (.UnaryOp op a pos) (tev X.K Wx g (o1 f oa)) :=
  (pe_un ho ha).mono fun _ _ _ h => rd_one pr h
theorem se_cmp {op : CmpOp} {f : List Ob → D → D → Option D} {r : R2} (ho : OpR X (compareOp op) r) (pr : Prim2 X.K f r) (hm : behindInMarks op b = false) (ha : PE X a (top X.K Wx g oa)) (hb : PE X b (top X.K Wx g ob)) : PE X (.Compare a [op] [b] pos) (tev X.K Wx g (o2 f oa ob)) :=
  (pe_cmpR ho ha hb hm).mono fun _ _ _ h => rd_two pr h
/-- a comparison as a test -/
theorem bl_test {F : Fg} {Wx : WX} {g : G} {c : Ex} {σ : St} {H : Hp} {Q : Bool → Hp → Prop} (h : ttx F Wx g (tE c) σ H Q) : tev F Wx g c σ H fun v H' => ∃ k, v = .bl k ∧ Q k H' := by
  obtain ⟨W, s, r, p⟩ := h
  refine tr_bind (De := Den F) r p fun d s1 W1 H1 v e1 r1 d1 p1 => ?_
  cases d with
  | bl k =>
    obtain rfl := d1.blv
    exact ⟨k, rfl, p1 _ _ _ Ext.refl r1 rfl⟩
  | _ => exact p1.elim
theorem st_cmp {op : CmpOp} {f : List Ob → D → D → Option D} {r : R2} (ho : OpR X (compareOp op) r) (pr : Prim2 X.K f r) (hm : behindInMarks op b = false) (ha : PE X a (top X.K Wx g oa)) (hb : PE X b (top X.K Wx g ob)) : PT X (.Compare a [op] [b] pos) (ttx X.K Wx g (tE (o2 f oa ob))) :=
  (pt_cmpR ho ha hb hm).mono fun _ _ _ h => rd_two pr (bl_test h)
theorem se_isN {j} {pos'} (ha : PE X a (top X.K Wx g oa)) : PE X (.Compare a [.Is] [.Constant .none j pos'] pos) (tev X.K Wx g (o1 (fun _ => dIsN) oa)) :=
  (pe_cmp (pc_isN ha) rfl).mono fun _ _ _ h => rd_one pr_isN h
theorem se_notN {j} {pos'} (ha : PE X a (top X.K Wx g oa)) : PE X (.Compare a [.IsNot] [.Constant .none j pos'] pos) (tev X.K Wx g (o1 (fun _ => dNotN) oa)) :=
  (pe_cmp (pc_notN ha) rfl).mono fun _ _ _ h => rd_one pr_notN h
theorem st_isN {j} {pos'} (ha : PE X a (top X.K Wx g oa)) : PT X (.Compare a [.Is] [.Constant .none j pos'] pos) (ttx X.K Wx g (tE (o1 (fun _ => dIsN) oa))) :=
  (pt_cmp (pc_isN ha) rfl).mono fun _ _ _ h => rd_one pr_isN (bl_test h)
theorem st_notN {j} {pos'} (ha : PE X a (top X.K Wx g oa)) : PT X (.Compare a [.IsNot] [.Constant .none j pos'] pos) (ttx X.K Wx g (tE (o1 (fun _ => dNotN) oa))) :=
  (pt_cmp (pc_notN ha) rfl).mono fun _ _ _ h => rd_one pr_notN (bl_test h)
theorem se_ix (hu : X.A.units + 200 < cLine) (ha : PE X a (top X.K Wx g oa)) (hb : PE X b (top X.K Wx g ob)) (hs : PlainIx b) : PE X (.Subscript a b pos) (tev X.K Wx g (o2 dIx oa ob)) :=
  (pe_ix (ix_any hu) ha hb hs).mono fun _ _ _ h => rd_two pr_ix h
theorem sp_none : PO X none (tpt X.K Wx g none) := po_none
theorem sp_some {c : Ex} (h : PE X e (tev X.K Wx g c)) : PO X (some e) (tpt X.K Wx g (some c)) := po_some h
theorem se_cut {lo hi : Option Expr} {cl ch : Option Ex} (ha : PE X a (top X.K Wx g oa)) (hl : PO X lo (tpt X.K Wx g cl)) (hh : PO X hi (tpt X.K Wx g ch)) : PE X (.Subscript a (.Slice lo hi none p2) pos) (tev X.K Wx g (cutE oa cl ch)) := by
  refine (pe_slice sl_all ha hl hh).mono fun σ H Q ⟨W, s, r, p⟩ => ?_
  refine top_bind r p fun x s1 W1 H1 v e1 r1 o1 p1 => ?_
  refine tpt_bind r1 p1 fun l s2 W2 H2 e2 r2 p2 => ?_
  refine tpt_bind r2 p2 fun u s3 W3 H3 e3 r3 p3 => ?_
  cases q : oa.rd x s3 with
  | none => rw [q] at p3; exact p3.elim
  | some d =>
    rw [q] at p3
    cases q2 : dCut d l u with
    | none => simp only [q2] at p3; exact p3.elim
    | some z =>
      simp only [q2] at p3
      exact pr_cut r3 (((o1.ext r1 e2).ext r2 e3).den r3 q) q2 p3
/-! ### and displays -/
theorem se_tup {es : List Expr} {c : Ax} {j} (h : PA X es (tax X.K Wx g c)) : PE X (.Tuple es j pos) (tev X.K Wx g (tupE c)) := by
  refine (pe_tupZ h).mono fun σ H Q ⟨W, s, r, p⟩ => ?_
  refine ⟨W, s, r, ?_⟩
  have p : Post X.K Wx (Den X.K) W s σ H Q ((c g s).bind fun l s => if l.length ≤ lim then .ok (.tup l) s else .bad) := p
  cases q : c g s with
  | bad => rw [q] at p; exact p
  | exc x s1 => rw [q] at p; exact p
  | ok l s1 =>
    rw [q] at p
    have p : Post X.K Wx (Den X.K) W s σ H Q (if l.length ≤ lim then .ok (.tup l) s1 else .bad) := p
    by_cases hl : l.length ≤ lim
    · rw [if_pos hl] at p
      exact fun W1 H1 vs e1 r1 d1 => ⟨by rw [d1.length]; exact hl, Ends1.tup (fun W' H' x e' r' d' => p W' H' x (e1.trans e') r' d') r1 d1⟩
    · rw [if_neg hl] at p; exact p.elim
theorem se_not {c : Ex} (h : PE X a (tev X.K Wx g c)) : PE X (.UnaryOp .Not a pos) (tev X.K Wx g (eNot c)) := by
  refine (pe_not h).mono fun σ H Q ⟨W, s, r, p⟩ => ?_
  refine tr_bind (De := Den X.K) r p fun d s1 W1 H1 v e1 r1 d1 p1 => ?_
  cases d with
  | bl k => exact ⟨k, d1.blv, p1 _ _ _ Ext.refl r1 (.bl _)⟩
  | _ => exact p1.elim
theorem se_bad : PE X e (tev X.K Wx g badE) := ⟨fun pins s σ H Q I ⟨W, s', r, p⟩ => p.elim⟩
theorem sa_bad {es : List Expr} : PA X es (tax X.K Wx g badA) := ⟨fun pos pins s σ H Q I ⟨W, s', r, p⟩ => p.elim⟩
theorem st_bad : PT X e (ttx X.K Wx g badT) := ⟨fun pins s σ H Q I ⟨W, s', r, p⟩ => p.elim⟩
end
end Cy

set_option Elab.async false
set_option linter.all false
set_option maxRecDepth 100000
/-! Cy over the hand layer: targets, statements. -/
namespace Cy
open L2 PySem PySem.Spec PyProof.Rows

/-! ### shapes of the text -/
def isStar : Expr → Bool
  | .Starred _ _ => true
  | _ => false
theorem starEach_of {e : Expr} {es : List Expr} {env : Env} (h : isStar e = false) : starEach (e :: es) env = (false, eval e env) :: starEach es env := by
  cases e <;> first | rfl | cases h
theorem assignEach_of {e : Expr} {es : List Expr} {env : Env} (h : isStar e = false) : (assignEach (e :: es) env).map (·.2) = assign e env :: (assignEach es env).map (·.2) := by
  cases e <;> first | rfl | cases h
def isComp : Expr → Bool
  | .ListComp .. => true
  | .SetComp .. => true
  | .DictComp .. => true
  | _ => false
theorem swaps_of {e : Expr} {t : Option Expr} {l : Nat} {env : Env} (h : isComp e = false) : swapsWith e t l env = pure false := by
  cases e <;> first | rfl | cases h
def isSl : Expr → Bool
  | .Slice .. => true
  | _ => false
theorem plainIx_of {e : Expr} (h : isSl e = false) : PlainIx e := by
  intro o i
  cases e <;> first | rfl | cases h

/-! ### runs of statements -/
def PostF (F : Fg) (Wx : WX) (W : Wd) (s : S) (σ : St) (H : Hp) (En : Ends) : Fl → Prop
  | .bad => False
  | .nx s' => ∀ W' σ' H', Ext W s σ H W' s' σ' H' → Rel F W' s' σ' H' → En.nx σ' H'
  | .bk s' => ∀ W' σ' H', Ext W s σ H W' s' σ' H' → Rel F W' s' σ' H' → En.bk σ' H'
  | .ct s' => ∀ W' σ' H', Ext W s σ H W' s' σ' H' → Rel F W' s' σ' H' → En.ct σ' H'
  | .rt d h => ∀ W' H' v, Ext W s σ H W' ⟨[], h⟩ [] H' → HRel F W' h H' → Den F W' H' v d → En.rt v H'
  | .exc x s' => ∀ W' σ' H' cls dct, Ext W s σ H W' s' σ' H' → Rel F W' s' σ' H' → ExcD F W' H' x cls dct → Wx cls dct σ' H'
def tst (F : Fg) (Wx : WX) (g : G) (c : Bl) : TS := fun D σ H => ∃ W s, Rel F W s σ H ∧ PostF F Wx W s σ H D (c g s)
section
variable {F : Fg} {Wx : WX} {W W' W1 : Wd} {s s' s1 : S} {σ σ' σ1 : St} {H H' H1 : Hp} {En : Ends} {g : G}
theorem PostF.shift {r : Fl} (e : Ext W s σ H W1 s1 σ1 H1) (p : PostF F Wx W s σ H En r) : PostF F Wx W1 s1 σ1 H1 En r := by
  cases r with
  | bad => exact p
  | nx s' => exact fun W' σ' H' e' r' => p W' σ' H' (e.trans e') r'
  | bk s' => exact fun W' σ' H' e' r' => p W' σ' H' (e.trans e') r'
  | ct s' => exact fun W' σ' H' e' r' => p W' σ' H' (e.trans e') r'
  | rt d h => exact fun W' H' v e' r' d' => p W' H' v (e.trans e') r' d'
  | exc x s' => exact fun W' σ' H' c d e' r' x' => p W' σ' H' c d (e.trans e') r' x'
/-- an expression's run, then a statement's -/
theorem fl_bind {α β : Type} {De : Wd → Hp → β → α → Prop} {Q : β → Hp → Prop} {a : G → S → Res α} {f : α → S → Fl} (r : Rel F W s σ H) (p : PostF F Wx W s σ H En ((a g s).thn f))
    (k : ∀ d s1 W1 H1 v, Ext W s σ H W1 s1 σ H1 → Rel F W1 s1 σ H1 → De W1 H1 v d → PostF F Wx W1 s1 σ H1 En (f d s1) → Q v H1) : tr F Wx De g a σ H Q := by
  refine ⟨W, s, r, ?_⟩
  cases q : a g s with
  | bad => rw [q] at p; exact p
  | ok d s1 =>
    rw [q] at p
    exact fun W1 H1 v e r1 d1 => k d s1 W1 H1 v e r1 d1 (PostF.shift e p)
  | exc x s1 =>
    rw [q] at p
    exact fun W' H' c d e' r' x' => p W' σ H' c d e' r' x'
theorem ret_thn (e : Ex) : ret e = fun g s => (e g s).thn fun d s => .rt d s.h := by
  funext g s
  unfold ret Res.thn
  cases e g s <;> rfl
theorem asg_thn (tg : Tg) (e : Ex) : asg tg e = fun g s => (e g s).thn fun d s => match tg d s with | some s => .nx s | none => .bad := by
  funext g s
  unfold asg Res.thn
  cases e g s <;> rfl
theorem take_thn (i : Nat) (e : Ex) : take i e = fun g s => (e g s).thn fun d s => if i < s.sg.length then .nx { s with sg := s.sg.set i (if ownable d then .own d else .val d) } else .bad := by
  funext g s
  unfold take Res.thn
  cases e g s <;> rfl
theorem exprS_thn (e : Ex) : exprS e = fun g s => (e g s).thn fun _ s => .nx s := by
  funext g s
  unfold exprS Res.thn
  cases e g s <;> rfl
theorem ifS_thn (t : Tx) (a b : Bl) : ifS t a b = fun g s => (t g s).thn fun c s => if c then a g s else b g s := by
  funext g s
  unfold ifS Res.thn
  cases t g s <;> rfl

/-! ### a name is stored -/
theorem Rel.lt (r : Rel F W s σ H) {i : Nat} {c : Sl} (h : s.sg[i]? = some c) : i < σ.length := by rw [← r.len]; exact (List.getElem?_eq_some_iff.mp h).1
theorem setV_get {l : St} {i j : Nat} {x : Option V} (hi : i < l.length) : (l.set i x)[j]? = if j = i then some x else l[j]? := by
  rw [List.getElem?_set]
  by_cases e : i = j
  · rw [if_pos e, if_pos e.symm, if_pos hi]
  · rw [if_neg e, if_neg fun z => e z.symm]
theorem Rel.store (r : Rel F W s σ H) {i : Nat} {d : D} {v : V} (hi : i < s.sg.length) (dv : Den F W H v d) :
    Rel F W { s with sg := s.sg.set i (.val d) } (σ.set i (some v)) H ∧ Ext W s σ H W { s with sg := s.sg.set i (.val d) } (σ.set i (some v)) H := by
  have hi' : i < σ.length := r.len ▸ hi
  have own : ∀ (j : Nat) (d' : D), (s.sg.set i (.val d))[j]? = some (.own d') → j ≠ i ∧ s.sg[j]? = some (.own d') := fun j d' h => by
    rcases set_get h with ⟨_, z, _⟩ | z
    · cases z
    · exact z
  refine ⟨⟨by simpa using r.len, fun j d' h => ?_, fun j d' h => ?_, fun j k d1 d2 a h1 h2 h3 h4 => ?_, r.hp⟩, fun _ _ h => h, fun _ h => h, fun b o h _ n => ⟨.inl h, fun z => z, n⟩, fun b _ ⟨j, d', h1, h2⟩ => ?_, fun _ h => h⟩
  · rw [setV_get hi']
    rcases set_get h with ⟨rfl, z, _⟩ | ⟨ne, z⟩
    · cases z; exact ⟨v, if_pos rfl, dv⟩
    · rw [if_neg ne]; exact r.val j d' z
  · obtain ⟨ne, z⟩ := own j d' h
    rw [setV_get hi', if_neg ne]
    exact r.own j d' z
  · obtain ⟨n1, z1⟩ := own j d1 h1
    obtain ⟨n2, z2⟩ := own k d2 h2
    rw [setV_get hi', if_neg n1] at h3
    rw [setV_get hi', if_neg n2] at h4
    exact r.sep j k d1 d2 a z1 z2 h3 h4
  · obtain ⟨ne, z⟩ := own j d' h1
    rw [setV_get hi', if_neg ne] at h2
    exact ⟨j, d', z, h2⟩
/-- .. with what was just made: its own -/
theorem Rel.storeOwn (r : Rel F W s σ H) {i : Nat} {d : D} {a : Addr} (hi : i < s.sg.length) (ob : OwnOb F W H a d) (nf : ¬ W.frz a) (nr : ∀ n, W.ref n ≠ some a) (no : ¬ OwnAt s σ a) :
    Rel F W { s with sg := s.sg.set i (.own d) } (σ.set i (some (.ref a))) H := by
  have hi' : i < σ.length := r.len ▸ hi
  refine ⟨by simpa using r.len, fun j d' h => ?_, fun j d' h => ?_, fun j k d1 d2 c h1 h2 h3 h4 => ?_, r.hp⟩
  · rw [setV_get hi']
    rcases set_get h with ⟨_, z, _⟩ | ⟨ne, z⟩
    · cases z
    · rw [if_neg ne]; exact r.val j d' z
  · rw [setV_get hi']
    rcases set_get h with ⟨rfl, z, _⟩ | ⟨ne, z⟩
    · cases z; exact ⟨a, if_pos rfl, ob, nf, nr⟩
    · rw [if_neg ne]; exact r.own j d' z
  · rw [setV_get hi'] at h3 h4
    rcases set_get h1 with ⟨rfl, z1, _⟩ | ⟨n1, z1⟩
    · rw [if_pos rfl] at h3
      rcases set_get h2 with ⟨rfl, z2, _⟩ | ⟨n2, z2⟩
      · rfl
      · rw [if_neg n2] at h4
        cases h3
        exact (no ⟨k, d2, z2, h4⟩).elim
    · rw [if_neg n1] at h3
      rcases set_get h2 with ⟨rfl, z2, _⟩ | ⟨n2, z2⟩
      · rw [if_pos rfl] at h4
        cases h4
        exact (no ⟨j, d1, z1, h3⟩).elim
      · rw [if_neg n2] at h4
        exact r.sep j k d1 d2 c z1 z2 h3 h4
end

/-! ### targets -/
/-- storing d by tg does what the target does -/
def TgOk (F : Fg) (js : List Nat) (tg : Tg) (t : TG) : Prop := ∀ (W : Wd) (s s' : S) (σ : St) (H : Hp) (v : V) (d : D) (Q : St → Hp → Prop), Rel F W s σ H → Den F W H v d → tg d s = some s' →
  (∀ σ', Rel F W s' σ' H → Ext W s σ H W s' σ' H → (σ'.length = σ.length ∧ ∀ j, j ∉ js → σ'[j]? = σ[j]?) → Q σ' H) → t v σ H Q
def TgsOk (F : Fg) (js : List Nat) (ts : List Tg) (t : TGs) : Prop := ∀ (W : Wd) (s s' : S) (σ : St) (H : Hp) (vs : List V) (ds : List D) (Q : St → Hp → Prop), Rel F W s σ H → DenL F W H vs ds → gTups ts ds s = some s' →
  (∀ σ', Rel F W s' σ' H → Ext W s σ H W s' σ' H → (σ'.length = σ.length ∧ ∀ j, j ∉ js → σ'[j]? = σ[j]?) → Q σ' H) → t vs σ H Q
section
variable {X : Cx} {F : Fg} {pos : Pos}
theorem sg_name {i : Nat} : TgOk F [i] (Cy.gName i) (L2.gName i) := by
  intro W s s' σ H v d Q r dv e k
  unfold Cy.gName at e
  split at e
  · rename_i hi
    cases e
    obtain ⟨r1, e1⟩ := r.store hi dv
    exact k _ r1 e1 ⟨List.length_set .., fun j hj => by rw [List.getElem?_set_ne fun z => hj (by simp [z])]⟩
  · cases e
theorem sgs_nil : TgsOk F [] [] gNil := by
  intro W s s' σ H vs ds Q r dl e k
  cases dl with
  | nil => cases e; exact ⟨rfl, k σ r Ext.refl ⟨rfl, fun _ _ => rfl⟩⟩
  | cons _ _ => cases e
theorem sgs_cons {tg : Tg} {ts : List Tg} {t : TG} {u : TGs} {js ks : List Nat} (h1 : TgOk F js tg t) (h2 : TgsOk F ks ts u) : TgsOk F (js ++ ks) (tg :: ts) (gCons t u) := by
  intro W s s' σ H vs ds Q r dl e k
  cases dl with
  | nil => cases e
  | @cons v vs d ds dv dl =>
    have e : (match tg d s with | some s => gTups ts ds s | none => none) = some s' := e
    cases q : tg d s with
    | none => rw [q] at e; cases e
    | some s1 =>
      rw [q] at e
      refine ⟨v, vs, rfl, h1 W s s1 σ H v d _ r dv q fun σ1 r1 e1 f1 => ?_⟩
      refine h2 W s1 s' σ1 H vs ds Q r1 (dl.ext r e1) e fun σ2 r2 e2 f2 => k σ2 r2 (e1.trans e2) ⟨f2.1.trans f1.1, fun j hj => ?_⟩
      rw [List.mem_append, not_or] at hj
      rw [f2.2 j hj.2, f1.2 j hj.1]
theorem gTups_len : ∀ {ts : List Tg} {ds : List D} {s s' : S}, gTups ts ds s = some s' → ds.length = ts.length
  | [], [], _, _, _ => rfl
  | [], _ :: _, _, _, e => by cases e
  | _ :: _, [], _, _, e => by cases e
  | t :: ts, d :: ds, s, s', e => by
    have e : (match t d s with | some s => gTups ts ds s | none => none) = some s' := e
    cases q : t d s with
    | none => rw [q] at e; cases e
    | some s1 => rw [q] at e; exact congrArg (· + 1) (gTups_len e)
/-- a tuple or a list taken apart -/
def gAny (F : Fg) (n : Nat) (t : TGs) : TG := fun v σ H Q => L2.gTup F n t v σ H Q ∨ gUnl F n t v σ H Q
theorem pg_any {es : List Expr} {k : Nat} {t : TGs} {n : Nat} (hc : X.calm = true) (h : PGs X es t) (hn : (assignEach es X.env).length = n) (hst : (assignEach es X.env).findIdx? (·.1) = none) : PG X (.Tuple es k pos) (gAny X.K n t) :=
  ⟨fun pins s σ H v u Q I r hw => hw.elim ((pg_tup hc h hn hst).run pins s σ H v u Q I r) ((pg_unl hc h hn hst).run pins s σ H v u Q I r)⟩
theorem sg_tup {ts : List Tg} {t : TGs} {n : Nat} {js : List Nat} (h : TgsOk F js ts t) (hn : ts.length = n) : TgOk F js (Cy.gTup ts) (gAny F n t) := by
  intro W s s' σ H v d Q r dv e k
  unfold Cy.gTup at e
  cases d with
  | tup l =>
    obtain ⟨a, vs, rfl, ha, dl⟩ := DenC.tup (.inl dv)
    exact .inl ⟨a, vs, rfl, ha.sq, by rw [dl.length, gTups_len e, hn], h W s s' σ H vs l Q r dl e k⟩
  | lst l =>
    obtain ⟨a, vs, rfl, ha, dl⟩ := DenC.lst (.inl dv)
    exact .inr ⟨a, vs, rfl, SqL.of ha, by rw [dl.length, gTups_len e, hn], h W s s' σ H vs l Q r dl e k⟩
  | _ => cases e
end

/-! ### statements -/
section
variable {X : Cx} {Wx : WX} {g : G} {pos : Pos} {e : Expr} {st : Stmt} {rest : List Stmt}
theorem ss_nil : PSs X [] (tst X.K Wx g pass) := pss_nil.mono fun D σ H ⟨W, s, r, p⟩ => p W σ H Ext.refl r
theorem seq_run {a b : Bl} {W : Wd} {s : S} {σ : St} {H : Hp} {En : Ends} {F : Fg} (r : Rel F W s σ H) (p : PostF F Wx W s σ H En (seq a b g s)) : tst F Wx g a { En with nx := tst F Wx g b En } σ H := by
  refine ⟨W, s, r, ?_⟩
  unfold seq at p
  cases q : a g s with
  | nx s1 =>
    rw [q] at p
    exact fun W1 σ1 H1 e1 r1 => ⟨W1, s1, r1, PostF.shift e1 p⟩
  | bad => rw [q] at p; exact p
  | rt d h => rw [q] at p; exact p
  | bk s1 => rw [q] at p; exact p
  | ct s1 => rw [q] at p; exact p
  | exc x s1 => rw [q] at p; exact p
theorem ss_cons {a b : Bl} (h1 : PS X st (tst X.K Wx g a)) (h2 : PSs X rest (tst X.K Wx g b)) : PSs X (st :: rest) (tst X.K Wx g (seq a b)) :=
  (pss_cons h1 h2).mono fun D σ H ⟨W, s, r, p⟩ => seq_run r p
theorem ss_one {a : Bl} (h1 : PS X st (tst X.K Wx g a)) : PSs X [st] (tst X.K Wx g a) := pss_one h1
theorem ss_pass : PS X (.Pass pos) (tst X.K Wx g pass) := ps_pass.mono fun D σ H ⟨W, s, r, p⟩ => p W σ H Ext.refl r
theorem ss_break : PS X (.Break pos) (tst X.K Wx g brk) := ps_break.mono fun D σ H ⟨W, s, r, p⟩ => p W σ H Ext.refl r
theorem ss_continue : PS X (.Continue pos) (tst X.K Wx g cont) := ps_continue.mono fun D σ H ⟨W, s, r, p⟩ => p W σ H Ext.refl r
theorem ss_never : PS X st (tst X.K Wx g never) := (ps_never (st := st)).mono fun D σ H ⟨W, s, r, p⟩ => p
theorem ss_ret {c : Ex} (h : PE X e (tev X.K Wx g c)) : PS X (.Return (some e) pos) (tst X.K Wx g (ret c)) := by
  refine (ps_ret h).mono fun D σ H ⟨W, s, r, p⟩ => ?_
  rw [ret_thn] at p
  refine fl_bind (De := Den X.K) r p fun d s1 W1 H1 v e1 r1 d1 p1 => ?_
  exact p1 W1 H1 v ⟨fun _ _ h => h, fun _ h => h, fun b o h _ n => ⟨.inl h, fun z => z, n⟩, fun b _ ⟨j, d', h1, _⟩ => by simp at h1, fun _ h => h⟩ r1.hp d1
theorem ss_retN : PS X (.Return none pos) (tst X.K Wx g (ret (cst .non))) := by
  refine ps_retN.mono fun D σ H ⟨W, s, r, p⟩ => ?_
  exact p W H .non ⟨fun _ _ h => h, fun _ h => h, fun b o h _ n => ⟨.inl h, fun z => z, n⟩, fun b _ ⟨j, d', h1, _⟩ => by simp at h1, fun _ h => h⟩ r.hp .non
theorem ss_if {c : Expr} {a b : List Stmt} {ct : Tx} {ca cb : Bl} (hc : PT X c (ttx X.K Wx g ct)) (ha : PSs X a (tst X.K Wx g ca)) (hb : PSs X b (tst X.K Wx g cb)) : PS X (.If c a b pos) (tst X.K Wx g (ifS ct ca cb)) := by
  refine (ps_if hc ha hb).mono fun D σ H ⟨W, s, r, p⟩ => ?_
  rw [ifS_thn] at p
  refine fl_bind (De := fun _ _ (b c : Bool) => b = c) r p fun d s1 W1 H1 v e1 r1 d1 p1 => ?_
  subst d1
  cases v with
  | true => exact ⟨W1, s1, r1, p1⟩
  | false => exact ⟨W1, s1, r1, p1⟩
theorem ss_expr {c : Ex} (h : PE X e (tev X.K Wx g c)) (hs : isComp e = false) : PS X (.Expr e pos) (tst X.K Wx g (exprS c)) := by
  refine (ps_expr h (swaps_of hs)).mono fun D σ H ⟨W, s, r, p⟩ => ?_
  rw [exprS_thn] at p
  refine fl_bind (De := Den X.K) r p fun d s1 W1 H1 v e1 r1 d1 p1 => ?_
  exact p1 W1 σ H1 Ext.refl r1
theorem asg_run {F : Fg} {tg : Tg} {t : TG} {c : Ex} {js : List Nat} (hg : TgOk F js tg t) {En : Ends} {σ : St} {H : Hp} (h : tst F Wx g (asg tg c) En σ H) : tAsg (tev F Wx g c) t En σ H := by
  obtain ⟨W, s, r, p⟩ := h
  rw [asg_thn] at p
  refine fl_bind (De := Den F) r p fun d s1 W1 H1 v e1 r1 d1 p1 => ?_
  cases q : tg d s1 with
  | none => simp only [q] at p1; exact p1.elim
  | some s2 =>
    simp only [q] at p1
    exact hg W1 s1 s2 σ H1 v d _ r1 d1 q fun σ2 r2 e2 _ => p1 W1 σ2 H1 e2 r2
theorem ss_asg {tge : Expr} {tg : Tg} {t : TG} {c : Ex} {js : List Nat} (hp : PG X tge t) (hg : TgOk X.K js tg t) (h : PE X e (tev X.K Wx g c)) (hs : isComp e = false) (ht : isStar tge = false) (hs2 : swappedStores [tge] e X.env = pure none) : PS X (.Assign [tge] e pos) (tst X.K Wx g (asg tg c)) := by
  refine (ps_asg h hp ?_ ?_ ?_).mono fun D σ H q => asg_run hg q
  · exact swaps_of hs
  · exact hs2
  · exact assignEach_of ht
end
end Cy

set_option Elab.async false
set_option linter.all false
set_option maxRecDepth 100000
/-! enumerate(tuple). -/
namespace Cy
open L2 PySem PySem.Spec PyProof.Rows

set_option maxHeartbeats 1000000 in
theorem meets_enumT (ad : Addr) (its : Array Value) : Meets (Builtin.«enumerate.__new__» ⟨[.type "enumerate", .ref ad], []⟩) (fun _ R s => s.heap.IsTuple ad its ∧
      R (.ok (.ret (.ref (s.heap.push { cls := .type "tuple_iterator", data := .fields #[.ref ad, .int 0 0] }).objs.size)))
        { s with heap := (s.heap.push { cls := .type "tuple_iterator", data := .fields #[.ref ad, .int 0 0] }).push { cls := .type "enumerate", data := .fields #[.none, .bool false, .ref s.heap.objs.size, rawInt 0, .none, .none] } }) :=
  .of_wp fun prog w A R s hyp => by
    obtain ⟨hp, g, d, tk, os⟩ := s; obtain ⟨hT, hyp⟩ := hyp
    have sub := sub_enumerate
    have hT : Heap.IsTuple (Shared.heap ⟨hp, g, d, tk, os⟩) ad its := hT
    obtain ⟨ob, hob, hcl, nn, hdt⟩ := id hT
    wp_walk using AutoSeq1.wpAny_loadPart' hob
    refine wpAny_stack_any fun stk => wpAny_pure ?_
    split
    · rename_i cl _ _ _ _ _
      cases (cl == Value.type "enumerate")
      · wp_walk using wpAny_pyIter_tuple hT
        exact ⟨_, rfl, hyp⟩
      · wp_walk using wpAny_pyIter_tuple hT
        exact ⟨_, rfl, hyp⟩
    · wp_walk using wpAny_pyIter_tuple hT
      exact ⟨_, rfl, hyp⟩
theorem call_enumT {prog : Program} {w : World} {A : Around} {E : Value → Shared → Prop} {s : Shared} {ad : Addr} {its : Array Value} {Q : Value → Shared → Prop} (hT : s.heap.IsTuple ad its)
    (k : ∀ hh, IsEnum hh (s.heap.objs.size + 1) s.heap.objs.size 0 .none → hh.IsTupleIter s.heap.objs.size ad 0 → hh.objs.size = s.heap.objs.size + 2 →
      (∀ b ob, s.heap.get? b = some ob → hh.get? b = some ob) → Q (.ref (s.heap.objs.size + 1)) { s with heap := hh }) :
    wpAny (model prog w) A (call (.type "enumerate") [.ref ad]) Q E s := by
  refine callType_new F.called_enumerate (by decide) (F.typeCall_enumerate_1 _) (F.newCall_enumerate_1 _) (fun ob => F.args_object_init_2 ob _) F.entry_enumerate_new
    (meets_enumT ad its) ⟨hT, ?_⟩
  have size1 : (s.heap.push { cls := .type "tuple_iterator", data := .fields #[.ref ad, .int 0 0] }).objs.size = s.heap.objs.size + 1 := Heap.size_push ..
  show _ ∧ _
  rw [size1]
  have enm : IsEnum ((s.heap.push { cls := .type "tuple_iterator", data := .fields #[.ref ad, .int 0 0] }).push { cls := .type "enumerate", data := .fields #[.none, .bool false, .ref s.heap.objs.size, rawInt 0, .none, .none] }) (s.heap.objs.size + 1) s.heap.objs.size 0 .none := by
    have z := Heap.get?_push_size (s.heap.push { cls := .type "tuple_iterator", data := .fields #[.ref ad, .int 0 0] }) (o := { cls := .type "enumerate", data := .fields #[.none, .bool false, .ref s.heap.objs.size, rawInt 0, .none, .none] }) rfl
    rw [size1] at z; exact z
  exact ⟨⟨_, enm, rfl⟩, k _ enm ⟨_, Heap.get?_push_of_some _ (Heap.get?_push_size _ rfl), rfl, rfl⟩ (by rw [Heap.size_push, size1]) fun b ob z => Heap.get?_push_of_some _ (Heap.get?_push_of_some _ z)⟩

/-- the tuple at a, each item in a new pair -/
def IteT (K : PySem.W.Frag) (a : Addr) : It :=
  ⟨fun i H => ∃ (xs : List V) (x : V), SqT K H a xs ∧ xs[i]? = some x, fun i H v H' => ∃ T x, v = .ref T ∧ H T = none ∧ H' = upd H T (.tup [.int (i : Nat), x]) ∧ ∀ xs, SqT K H a xs → xs[i]? = some x, fun i H => ∃ xs : List V, SqT K H a xs ∧ xs.length = i⟩
theorem turn_enumT {P : Program} {w : World} {K : PySem.W.Frag} {elts : List Expr} {kk : Nat} {tpos : Pos} (a e it : Addr) :
    Turn P w K (.Tuple elts kk tpos) (IteT K a) [e, it] e (fun i h => (∃ old, IsEnum h e it ((i : Nat) : Int) old) ∧ h.IsTupleIter it a i ∧ e ≠ it ∧ a ≠ it ∧ e ≠ a) where
  mem := by simp
  obj := fun i h tn b hb => by
    obtain ⟨⟨old, he⟩, ⟨o, ho, hc, hd⟩, _⟩ := tn
    have either : b = e ∨ b = it := by simpa using hb
    rcases either with z | z
    · rw [z]; exact ⟨_, he, fun v q => nomatch q⟩
    · rw [z]; exact ⟨o, ho, fun v q => by rw [hd] at q; cases q⟩
  keep := fun i h h' tn k => let ⟨⟨old, he⟩, hi, rest⟩ := tn; ⟨⟨old, k e (by simp) _ he⟩, hi.at fun o q => k it (by simp) o q, rest⟩
  item := by
    intro X hP hw hK hc i pins s σ H E I hf tn hg
    subst hP hw hK
    obtain ⟨⟨old, he⟩, hit, hne, hai, hea⟩ := tn
    obtain ⟨xs, x, hq, hx⟩ := hg
    obtain ⟨its, rv, p, hz⟩ := I.tuple hq
    have p : s.heap.IsTuple a its.toArray := p
    obtain ⟨u, hu, ru⟩ := rv.get hx
    have hel : e < s.heap.objs.size := Heap.lt_size he
    have hil : it < s.heap.objs.size := by obtain ⟨_, q, _⟩ := hit; exact Heap.lt_size q
    have hlt : i < its.toArray.size := by
      have := (List.getElem?_eq_some_iff.mp hu).1
      simpa using this
    have D := Draws.tuple (prog := X.prog) (w := X.w) (A := X.A.in1) (I.ok.hd hc) it a hai its.toArray
    refine wpAny_pyNext_enum_itemD D he ⟨hit, p⟩ hlt hne (by simp [hne, hea]) fun y h' tk hy ho hit' hT hsz hk => ?_
    have hy : its.toArray[i]? = some y := hy
    have ey : y = u := by
      rw [List.getElem?_toArray, hu] at hy
      exact (Option.some.inj hy).symm
    subst ey
    obtain ⟨hit', _⟩ := hit'
    refine ⟨_, rfl, wpAny_letOwnedTupleGo_enum (s := { s with heap := h', toks := tk + 1 }) ho fun h'' he' sb => ?_⟩
    have hT2 : h''.get? s.heap.objs.size = some { cls := .type "tuple", data := .seq #[.int i tk, y] } := (sb.2 _ (Nat.ne_of_gt hel)).trans hT
    have new : ObjOk X.prog X.w (upd H s.heap.objs.size (.tup [.int (i : Nat), x])) h'' s.heap.objs.size (.tup [.int (i : Nat), x]) :=
      ⟨by show 2 ≤ sizeLine; decide, [.int i tk, y], .cons ⟨_, rfl⟩ (.cons ru .nil), ⟨_, hT2, rfl, _, rfl⟩⟩
    have I1 : Inv X pins σ (upd H s.heap.objs.size (.tup [.int (i : Nat), x])) { s with heap := h'', toks := tk + 1 } :=
      I.turnedNew (ch := [e, it]) (fun b ob hb q => (sb.2 b (fun z => hb (by simp [z]))).trans (hk b ob (fun z => hb (by simp [z])) (fun z => hb (by simp [z])) q)) hf (Nat.le_refl _) new
    refine ⟨.ref s.heap.objs.size, _, I1, rfl, ⟨_, x, rfl, I.hok.fresh (Nat.le_refl _), rfl, fun ys hys => by rw [I.tuple_inj hys hq]; exact hx⟩, ⟨⟨y, ?_⟩, hit'.at fun o q => (sb.2 it (Ne.symm hne)).trans q, hne, hai, hea⟩, fun b hb => ?_⟩
    · have e1 : ((i + 1 : Nat) : Int) = (i : Int) + 1 := by omega
      rw [e1]; exact he'
    · have hlb : b < s.heap.objs.size := by
        have either : b = e ∨ b = it := by simpa using hb
        rcases either with z | z
        · rw [z]; exact hel
        · rw [z]; exact hil
      rw [upd_ne (Nat.ne_of_lt hlb)]
      exact (hf b hb).1
  done := by
    intro X hP hw hK hc i pins s σ H E I hf tn hg
    subst hP hw hK
    obtain ⟨⟨old, he⟩, hit, hne, hai, hea⟩ := tn
    obtain ⟨xs, hq, hx⟩ := hg
    obtain ⟨its, rv, p, hz⟩ := I.tuple hq
    have p : s.heap.IsTuple a its.toArray := p
    obtain ⟨f0, f1, f2, f3, f4, f5⟩ := hf it (by simp)
    have ei : i = its.toArray.size := by
      have := rv.length
      simp
      omega
    have D := Draws.tuple (prog := X.prog) (w := X.w) (A := X.A.in1) (I.ok.hd hc) it a hai its.toArray
    exact wpAny_pyNext_enum_endD D he (ei ▸ ⟨hit, p⟩) fun h' eb => ⟨rfl, I.turned (t' := s.toks) (fun b o hb q => eb b o hb q) f0 f1 f3 f4 f5⟩
  self := fun A i s Q E tn h => let ⟨⟨_, he⟩, _⟩ := tn; wpAny_pyIter_enum he h
def iEnumT (K : PySem.W.Frag) (ta : TA) : TI := fun σ H R => ta σ H fun vs H1 => ∃ a xs, vs = [.ref a] ∧ SqT K H1 a xs ∧ R (IteT K a) H1
theorem pi_enumT {X : Cx} {e : Expr} {ta : TA} {p pos tpos : Pos} {elts : List Expr} {kk : Nat} (hg : Gl X "enumerate") (hm : X.mg "enumerate" = none) (ha : PA X [e] ta) (hs : starEach [e] X.env = [(false, eval e X.env)] := by rfl) :
    PI X (.Tuple elts kk tpos) (.Call (.Name "enumerate" p) [e] [] pos) (iEnumT X.K ta) := by
  refine ⟨fun pins s σ H R I h => Call_ (ld_blt I hg hm boot_enumerate (PyProof.Rows.callWith_type1 (thn (ha.run pos pins s σ H _ I h) fun us s1 ⟨vs, H1, I1, r1, q1⟩ => ?_) hs rfl))⟩
  obtain ⟨a, xs, ex, hq, q⟩ := q1
  subst ex
  cases r1 with
  | cons r rr =>
    cases rr
    cases r
    obtain ⟨its, rv, p', hz⟩ := I1.tuple hq
    have p' : s1.heap.IsTuple a its.toArray := p'
    have la : a < s1.heap.objs.size := by obtain ⟨_, z, _⟩ := p'; exact Heap.lt_size z
    refine call_enumT p' fun h' he hit hsz hk => wpAny_pyIter_enum he ?_
    have I2 : Inv X pins σ H1 { s1 with heap := h' } := I1.kept (t' := s1.toks) hk
    refine ⟨s1.heap.objs.size + 1, [s1.heap.objs.size + 1, s1.heap.objs.size], _, _, H1, rfl, I2, turn_enumT a (s1.heap.objs.size + 1) s1.heap.objs.size, ⟨⟨.none, he⟩, hit, Nat.succ_ne_self _, Nat.ne_of_lt la, Nat.ne_of_gt (Nat.lt_succ_of_lt la)⟩, fun b hb => ?_, q⟩
    have either : b = s1.heap.objs.size + 1 ∨ b = s1.heap.objs.size := by simpa using hb
    have hle : s1.heap.objs.size ≤ b := by
      rcases either with z | z
      · rw [z]; exact Nat.le_add_right _ _
      · rw [z]; exact Nat.le_refl _
    exact I1.fpOk hle (I1.hok.fresh hle)
end Cy

set_option Elab.async false
set_option linter.all false
set_option maxRecDepth 100000
/-! Cy over the hand layer: loops, comprehensions. -/
namespace Cy
open L2 PySem PySem.Spec PyProof.Rows

/-! ### what is walked -/
/-- the iterator J gives just these, from here on -/
def ItOk (F : Fg) (J : It) (W0 : Wd) (H0 : Hp) (ds : List D) : Prop := ∀ (W : Wd) (s : S) (σ : St) (H : Hp), Stab W0 H0 W H → Rel F W s σ H → ∀ i : Nat,
  (∀ d, ds[i]? = some d → J.go i H ∧ ∀ x H', J.yld i H x H' → Ext W s σ H W s σ H' ∧ Rel F W s σ H' ∧ Den F W H' x d) ∧ (i = ds.length → J.stop i H)
def tix (F : Fg) (Wx : WX) (g : G) (c : Ix) : TI := fun σ H R => ∃ W s, Rel F W s σ H ∧ match c g s with
  | .bad => False
  | .ok ds s' => ∀ W' H' J, Ext W s σ H W' s' σ H' → Rel F W' s' σ H' → ItOk F J W' H' ds → R J H'
  | .exc x s' => ∀ W' H' cls dct, Ext W s σ H W' s' σ H' → Rel F W' s' σ H' → ExcD F W' H' x cls dct → Wx cls dct σ H'
theorem _root_.L2.PI.mono {X : Cx} {tg e : Expr} {t t' : TI} (h : PI X tg e t) (m : ∀ σ H Q, t' σ H Q → t σ H Q) : PI X tg e t' := ⟨fun pins s σ H Q I q => h.run pins s σ H Q I (m _ _ _ q)⟩
theorem _root_.L2.PI.or {X : Cx} {tg e : Expr} {t t' : TI} (h : PI X tg e t) (h' : PI X tg e t') : PI X tg e (fun σ H R => t σ H R ∨ t' σ H R) := ⟨fun pins s σ H Q I q => q.elim (h.run pins s σ H Q I) (h'.run pins s σ H Q I)⟩
section
variable {F : Fg} {Wx : WX} {g : G}
/-- the walk over a made thing: from the thing's run -/
theorem tix_bind {a : Ex} {f : D → S → Res (List D)} {σ : St} {H : Hp} {R : It → Hp → Prop} (h : tix F Wx g (fun g s => (a g s).bind f) σ H R) {Q : VK}
    (k : ∀ d s1 W1 H1 v ds, f d s1 = .ok ds s1 → Rel F W1 s1 σ H1 → Den F W1 H1 v d → (∀ W' H' J, Ext W1 s1 σ H1 W' s1 σ H' → Rel F W' s1 σ H' → ItOk F J W' H' ds → R J H') → Q v H1)
    (hf : ∀ d s, f d s = .bad ∨ ∃ ds, f d s = .ok ds s) : tev F Wx g a σ H Q := by
  obtain ⟨W, s, r, p⟩ := h
  refine ⟨W, s, r, ?_⟩
  cases q : a g s with
  | bad => simp only [q, Res.bind] at p
  | exc x s1 => simp only [q, Res.bind] at p; exact p
  | ok d s1 =>
    simp only [q, Res.bind] at p
    intro W1 H1 v e1 r1 d1
    rcases hf d s1 with z | ⟨ds, z⟩
    · rw [z] at p; exact p.elim
    · rw [z] at p
      exact k d s1 W1 H1 v ds z r1 d1 fun W' H' J e' r' it => p W' H' J (e1.trans e') r' it
end
theorem upto_get {lo : Int} : ∀ {n i : Nat} {d : D}, (upto lo n)[i]? = some d → i < n ∧ d = .int (lo + i)
  | 0, i, d, h => by simp [upto] at h
  | n + 1, 0, d, h => by simp [upto] at h; exact ⟨by omega, by rw [← h]; simp⟩
  | n + 1, i + 1, d, h => by
    have h : (upto (lo + 1) n)[i]? = some d := by simpa [upto] using h
    obtain ⟨h1, h2⟩ := upto_get h
    exact ⟨by omega, by rw [h2]; congr 1; omega⟩
theorem upto_len (lo : Int) : ∀ n : Nat, (upto lo n).length = n
  | 0 => rfl
  | n + 1 => by rw [upto, List.length_cons, upto_len]
theorem itok_range {F : Fg} {lo : Int} {n : Nat} {W0 : Wd} {H0 : Hp} : ItOk F (Itr lo n) W0 H0 (upto lo n) := by
  intro W s σ H e r i
  refine ⟨fun d hd => ?_, fun hi => by rw [upto_len] at hi; exact Nat.le_of_eq hi.symm⟩
  obtain ⟨h1, rfl⟩ := upto_get hd
  refine ⟨h1, fun x H' ⟨eH, ex⟩ => ?_⟩
  subst eH ex
  exact ⟨Ext.refl, r, .int _⟩
/-! ### rows that stay -/
section
variable {F : Fg} {W0 : Wd} {H0 : Hp} {v : V} {l : List D}
def StayL (F : Fg) (W0 : Wd) (H0 : Hp) (a : Addr) (vs : List V) : Prop := ∀ (W : Wd) (H : Hp), Stab W0 H0 W H → SqL F H a vs
def StayT (F : Fg) (W0 : Wd) (H0 : Hp) (a : Addr) (vs : List V) : Prop := ∀ (W : Wd) (H : Hp), Stab W0 H0 W H → SqT F H a vs
theorem Den.stayL (d : Den F W0 H0 v (.lst l)) : ∃ a vs, v = .ref a ∧ DenL F W0 H0 vs l ∧ StayL F W0 H0 a vs := by
  cases d with
  | @lst a vs _ z h dl => exact ⟨a, vs, rfl, dl, fun W H e => SqL.of ((e.frz a z).2.1 _ h)⟩
theorem Den.stayF (d : Den F W0 H0 v (.fro l)) : ∃ a vs, v = .ref a ∧ DenL F W0 H0 vs l ∧ StayL F W0 H0 a vs := by
  cases d with
  | @fro a vs _ h dl => exact ⟨a, vs, rfl, dl, fun W H e => h H fun o u z => e.fz _ o u z⟩
theorem Den.stayT (d : Den F W0 H0 v (.tup l)) : ∃ a vs, v = .ref a ∧ DenL F W0 H0 vs l ∧ StayT F W0 H0 a vs := by
  cases d with
  | @tup a vs _ h dl => exact ⟨a, vs, rfl, dl, fun W H e => (h.keep (fun xs z => e.tup a xs z) fun o u z => e.fz a o u z).sq⟩
theorem Den.stayU (d : Den F W0 H0 v (.frt l)) : ∃ a vs, v = .ref a ∧ DenL F W0 H0 vs l ∧ StayT F W0 H0 a vs := by
  cases d with
  | @frt a vs _ h dl => exact ⟨a, vs, rfl, dl, fun W H e => h H fun o u z => e.fz _ o u z⟩
theorem StayL.here {a : Addr} {vs : List V} (h : StayL F W0 H0 a vs) : SqL F H0 a vs := h _ _ Stab.refl
theorem StayT.here {a : Addr} {vs : List V} (h : StayT F W0 H0 a vs) : SqT F H0 a vs := h _ _ Stab.refl
end
theorem itok_list {F : Fg} {W0 : Wd} {H0 : Hp} {a : Addr} {vs : List V} {ds : List D} (dl : DenL F W0 H0 vs ds) (hs : StayL F W0 H0 a vs) : ItOk F (Itl F a) W0 H0 ds := by
  intro W s σ H e r i
  have h1 := hs W H e
  refine ⟨fun d hd => ?_, fun hi => ⟨vs, h1, by rw [dl.length]; exact Nat.le_of_eq hi.symm⟩⟩
  obtain ⟨y, ey, dy⟩ := (dl.stab e).get hd
  refine ⟨⟨vs, y, h1, ey⟩, fun x H' ⟨eH, hx⟩ => ?_⟩
  subst eH
  have := hx vs h1
  rw [ey] at this
  cases this
  exact ⟨Ext.refl, r, dy⟩
theorem itok_tup {F : Fg} {W0 : Wd} {H0 : Hp} {a : Addr} {vs : List V} {ds : List D} (dl : DenL F W0 H0 vs ds) (hs : StayT F W0 H0 a vs) : ItOk F (Itt F a) W0 H0 ds := by
  intro W s σ H e r i
  have h1 := hs W H e
  refine ⟨fun d hd => ?_, fun hi => ⟨vs, h1, by rw [dl.length]; exact Nat.le_of_eq hi.symm⟩⟩
  obtain ⟨y, ey, dy⟩ := (dl.stab e).get hd
  refine ⟨⟨vs, y, h1, ey⟩, fun x H' ⟨eH, hx⟩ => ?_⟩
  subst eH
  have := hx vs h1
  rw [ey] at this
  cases this
  exact ⟨Ext.refl, r, dy⟩
/-- the keys of a dict that is locked, or is locked now -/
def iKeysA (td : TE) : TI := fun σ H R => td σ H fun x H1 => ∃ d, x = .ref d ∧
  ((∃ o kvs, H1 d = some (.frz o (.dK kvs)) ∧ R (Itk d o kvs) H1) ∨ (∃ o kvs, H1 d = some (.frz o (.dT kvs)) ∧ R (Itkt d o kvs) H1) ∨
    (∃ kvs, H1 d = some (.dK kvs) ∧ ∀ o, R (Itk d o kvs) (upd H1 d (.frz o (.dK kvs)))) ∨ ∃ kvs, H1 d = some (.dT kvs) ∧ ∀ o, R (Itkt d o kvs) (upd H1 d (.frz o (.dT kvs))))
theorem pi_keysA {X : Cx} {tg e : Expr} {td : TE} (he : PE X e td) : PI X tg e (iKeysA td) := by
  refine ⟨fun pins s σ H R I h => ?_⟩
  refine thn (he.run pins s σ H _ I h) fun u s1 ⟨x, H1, I1, rx, d, ex, q⟩ => ?_
  subst ex
  obtain rfl : u = Value.ref d := rx
  have k1 : ∀ {H2 : Hp} {o kvs}, Inv X pins σ H2 s1 → H2 d = some (.frz o (.dK kvs)) → R (Itk d o kvs) H2 → wpAny (model X.prog X.w) X.A (pyIter (.ref d)) (PIE X pins σ tg R) X.xe s1 := fun {H2 o kvs} I2 hd q => by
    obtain ⟨hs, hgd, hx, es, ep, vs, hdt, hsz, kv, hm⟩ := I2.frzK hd
    refine iter_keys hs hgd hx hdt (pi_one (tk := s1.toks) I2 _ (turn_keys _ hdt) ⟨_, Heap.get?_push_size _ rfl, rfl, ?_⟩ q)
    rw [hsz] <;> rfl
  have k2 : ∀ {H2 : Hp} {o kvs}, Inv X pins σ H2 s1 → H2 d = some (.frz o (.dT kvs)) → R (Itkt d o kvs) H2 → wpAny (model X.prog X.w) X.A (pyIter (.ref d)) (PIE X pins σ tg R) X.xe s1 := fun {H2 o kvs} I2 hd q => by
    obtain ⟨hs, hgd, hx, es, ep, hdt, hsz, ent⟩ := I2.frzT hd
    refine iter_keys hs hgd hx hdt (pi_one (tk := s1.toks) I2 _ (turn_keysT _ hdt) ⟨_, Heap.get?_push_size _ rfl, rfl, ?_⟩ q)
    rw [hsz] <;> rfl
  rcases q with ⟨o, kvs, hd, q⟩ | ⟨o, kvs, hd, q⟩ | ⟨kvs, hd, q⟩ | ⟨kvs, hd, q⟩
  · exact k1 I1 hd q
  · exact k2 I1 hd q
  · obtain ⟨od, I2⟩ := I1.lock hd trivial
    exact k1 I2 upd_same (q od)
  · obtain ⟨od, I2⟩ := I1.lock hd trivial
    exact k2 I2 upd_same (q od)
/-- a frozen dict is locked -/
theorem Rel.lock {F : Fg} {W : Wd} {s : S} {σ : St} {H : Hp} (r : Rel F W s σ H) {a : Addr} {u : HO} (hz : W.frz a) (h : H a = some u) (hu : (∃ k, u = .dK k) ∨ ∃ k, u = .dT k) (o : Obj) :
    Ext W s σ H W s σ (upd H a (.frz o u)) ∧ Rel F W s σ (upd H a (.frz o u)) ∧ Stab W H W (upd H a (.frz o u)) := by
  have t : Stab W H W (upd H a (.frz o u)) := by
    refine ⟨fun b hb => ⟨hb, ?_⟩, fun b xs hb => ?_, fun b ob u' hb => ?_, fun _ _ h => h⟩
    · by_cases e : b = a
      · subst e
        refine ⟨fun xs hx => ?_, fun k hk => ?_, fun k hk => ?_⟩
        · rw [h] at hx; cases hx; rcases hu with ⟨_, z⟩ | ⟨_, z⟩ <;> cases z
        · rcases hk with hk | ⟨o', hk⟩
          · rw [h] at hk; cases hk; exact .inr ⟨o, upd_same⟩
          · rw [h] at hk; cases hk; rcases hu with ⟨_, z⟩ | ⟨_, z⟩ <;> cases z
        · rcases hk with hk | ⟨o', hk⟩
          · rw [h] at hk; cases hk; exact .inr ⟨o, upd_same⟩
          · rw [h] at hk; cases hk; rcases hu with ⟨_, z⟩ | ⟨_, z⟩ <;> cases z
      · exact keep_frz (upd_ne e)
    · by_cases e : b = a
      · subst e; rw [h] at hb; cases hb; rcases hu with ⟨_, z⟩ | ⟨_, z⟩ <;> cases z
      · rw [upd_ne e]; exact hb
    · by_cases e : b = a
      · subst e; rw [h] at hb; cases hb; rcases hu with ⟨_, z⟩ | ⟨_, z⟩ <;> cases z
      · rw [upd_ne e]; exact hb
  refine ⟨⟨fun _ _ h => h, fun _ h => h, fun b ob hb no nr => ⟨?_, fun z => z, nr⟩, fun _ _ h => h, fun b hb => ?_⟩, ⟨r.len, fun i d hi => ?_, fun i d hi => ?_, r.sep, fun b hb => ?_, fun n b hb => ?_, r.hp.all, r.hp.inj, r.hp.nor⟩, t⟩
  · by_cases e : b = a
    · subst e
      rw [h] at hb; cases hb
      exact .inr ⟨hz, hu, o, upd_same⟩
    · exact .inl (by rw [upd_ne e]; exact hb)
  · by_cases e : b = a
    · rw [e, upd_same] at hb; cases hb
    · rw [upd_ne e] at hb; exact hb
  · obtain ⟨v, e, q⟩ := r.val i d hi
    exact ⟨v, e, q.stab t⟩
  · obtain ⟨b, e, q, nf, nr⟩ := r.own i d hi
    exact ⟨b, e, q.stab t (upd_ne fun z => nf (z ▸ hz)), nf, nr⟩
  · by_cases e : b = a
    · rw [e, upd_same]; rcases hu with ⟨_, rfl⟩ | ⟨_, rfl⟩ <;> trivial
    · rw [upd_ne e]; exact r.hp.frz b hb
  · obtain ⟨nf, ob, e, q⟩ := r.hp.refs n b hb
    exact ⟨nf, ob, e, q.stab t (upd_ne fun z => nf (z ▸ hz))⟩
theorem DenK.key_at {F : Fg} {W : Wd} {H : Hp} : ∀ {kvs : List (Key × V)} {l : List (K × D)}, DenK F W H kvs l → ∀ {i : Nat} {k : Key} {v : V}, kvs[i]? = some (k, v) → ∃ k', (l.map fun p => kD p.1)[i]? = some (kD k') ∧ k = kk k'
  | _, _, .nil, i, k, v, e => by simp at e
  | _, _, .cons (k := k0) d r, 0, k, v, e => by
    simp only [List.getElem?_cons_zero, Option.some.injEq, Prod.mk.injEq] at e
    exact ⟨k0, rfl, e.1.symm⟩
  | _, _, .cons d r, i + 1, k, v, e => by
    obtain ⟨k', h1, h2⟩ := DenK.key_at r (i := i) (by simpa using e)
    exact ⟨k', by simpa using h1, h2⟩
theorem DenT.key_at {F : Fg} {W : Wd} {H : Hp} : ∀ {kvs : List (List Key × V)} {l : List (List K × D)}, DenT F W H kvs l → ∀ {i : Nat} {k : List Key} {v : V}, kvs[i]? = some (k, v) → ∃ k' : List K, (l.map fun p => D.tup (p.1.map kD))[i]? = some (.tup (k'.map kD)) ∧ k = k'.map kk
  | _, _, .nil, i, k, v, e => by simp at e
  | _, _, .cons (k := k0) d r, 0, k, v, e => by
    simp only [List.getElem?_cons_zero, Option.some.injEq, Prod.mk.injEq] at e
    exact ⟨k0, rfl, e.1.symm⟩
  | _, _, .cons d r, i + 1, k, v, e => by
    obtain ⟨k', h1, h2⟩ := DenT.key_at r (i := i) (by simpa using e)
    exact ⟨k', by simpa using h1, h2⟩
theorem den_key {F : Fg} {W : Wd} {H : Hp} (k : K) : Den F W H (kV (kk k)) (kD k) := by
  cases k with
  | i n => exact .int n
  | s x => exact .str x
theorem den_keys {F : Fg} {W : Wd} {H : Hp} : ∀ k : List K, DenL F W H ((k.map kk).map kV) (k.map kD)
  | [] => .nil
  | k :: r => .cons (den_key k) (den_keys r)
theorem itok_keys {F : Fg} {W0 : Wd} {H0 : Hp} {d : Addr} {o : Obj} {kvs : List (Key × V)} {l : List (K × D)} (dl : DenK F W0 H0 kvs l) (hd : H0 d = some (.frz o (.dK kvs))) : ItOk F (Itk d o kvs) W0 H0 (l.map fun p => kD p.1) := by
  intro W s σ H e r i
  have h1 := e.fz _ _ _ hd
  have hl : (l.map fun p => kD p.1).length = kvs.length := by rw [List.length_map, ← dl.length]
  refine ⟨fun x hx => ?_, fun hi => ⟨h1, by rw [hi, hl]; exact Nat.le_refl _⟩⟩
  have hi := (List.getElem?_eq_some_iff.mp hx).1
  rw [hl] at hi
  refine ⟨⟨h1, hi⟩, fun y H' ⟨eH, k, v, hk, ey⟩ => ?_⟩
  subst eH
  obtain ⟨k', a1, a2⟩ := dl.key_at hk
  rw [hx] at a1
  cases a1
  rw [ey, a2]
  exact ⟨Ext.refl, r, den_key k'⟩
theorem itok_keysT {F : Fg} {W0 : Wd} {H0 : Hp} {d : Addr} {o : Obj} {kvs : List (List Key × V)} {l : List (List K × D)} (zl : (l.all fun p => !sT (p.1.map kD)) = true) (dl : DenT F W0 H0 kvs l) (hd : H0 d = some (.frz o (.dT kvs))) : ItOk F (Itkt d o kvs) W0 H0 (l.map fun p => D.tup (p.1.map kD)) := by
  intro W s σ H e r i
  have h1 := e.fz _ _ _ hd
  have hl : (l.map fun p => D.tup (p.1.map kD)).length = kvs.length := by rw [List.length_map, ← dl.length]
  refine ⟨fun x hx => ?_, fun hi => ⟨h1, by rw [hi, hl]; exact Nat.le_refl _⟩⟩
  have hi := (List.getElem?_eq_some_iff.mp hx).1
  rw [hl] at hi
  refine ⟨⟨h1, hi⟩, fun y H' ⟨eH, k, v, q, hk, ey, hq⟩ => ?_⟩
  subst eH
  obtain ⟨k', a1, a2⟩ := dl.key_at hk
  rw [hx] at a1
  cases a1
  subst a2
  rw [ey]
  have hz : sT (k'.map kD) = false := by
    have hm := List.mem_of_getElem? hx
    obtain ⟨p, hp, e⟩ := List.mem_map.mp hm
    have := List.all_eq_true.mp zl p hp
    rw [D.tup.injEq] at e
    rw [← e]
    simpa using this
  exact ⟨Ext.refl, r, .tup (.inr ⟨hz, hq⟩) (den_keys k')⟩
section
variable {X : Cx} {Wx : WX} {g : G} {pos p0 : Pos} {tg e a b : Expr}
/-- for .. in e: a list, a tuple, a text, a dict -/
theorem si_val {c : Ex} (h : PE X e (tev X.K Wx g c)) : PI X tg e (tix X.K Wx g (iVal c)) := by
  refine ((pi_list h).or ((pi_tup h).or ((pi_str h).or (pi_keysA h)))).mono fun σ H R q => ?_
  obtain ⟨W, s, r, p⟩ := id q
  cases qa : c g s with
  | bad => simp only [iVal, qa, Res.bind] at p
  | exc x s1 => simp only [iVal, qa, Res.bind] at p; exact .inl ⟨W, s, r, by rw [qa]; exact p⟩
  | ok d s1 =>
    simp only [iVal, qa, Res.bind] at p
    have main : ∀ {Q : VK}, (∀ W1 H1 v, Rel X.K W1 s1 σ H1 → Den X.K W1 H1 v d → Ext W s σ H W1 s1 σ H1 → Q v H1) → tev X.K Wx g c σ H Q := fun {Q} k => ⟨W, s, r, by rw [qa]; exact fun W1 H1 v e1 r1 d1 => k W1 H1 v r1 d1 e1⟩
    cases d with
    | tup l =>
      have p : ∀ W' H' J, Ext W s σ H W' s1 σ H' → Rel X.K W' s1 σ H' → ItOk X.K J W' H' l → R J H' := p
      refine .inr (.inl (main fun W1 H1 v r1 d1 e1 => ?_))
      obtain ⟨a, vs, rfl, dl, sy⟩ := d1.stayT
      exact ⟨a, rfl, ⟨vs, sy.here⟩, p W1 H1 _ e1 r1 (itok_tup dl sy)⟩
    | frt l =>
      have p : ∀ W' H' J, Ext W s σ H W' s1 σ H' → Rel X.K W' s1 σ H' → ItOk X.K J W' H' l → R J H' := p
      refine .inr (.inl (main fun W1 H1 v r1 d1 e1 => ?_))
      obtain ⟨a, vs, rfl, dl, sy⟩ := d1.stayU
      exact ⟨a, rfl, ⟨vs, sy.here⟩, p W1 H1 _ e1 r1 (itok_tup dl sy)⟩
    | lst l =>
      have p : ∀ W' H' J, Ext W s σ H W' s1 σ H' → Rel X.K W' s1 σ H' → ItOk X.K J W' H' l → R J H' := p
      refine .inl (main fun W1 H1 v r1 d1 e1 => ?_)
      obtain ⟨a, vs, rfl, dl, sy⟩ := d1.stayL
      exact ⟨a, rfl, ⟨vs, sy.here⟩, p W1 H1 _ e1 r1 (itok_list dl sy)⟩
    | fro l =>
      have p : ∀ W' H' J, Ext W s σ H W' s1 σ H' → Rel X.K W' s1 σ H' → ItOk X.K J W' H' l → R J H' := p
      refine .inl (main fun W1 H1 v r1 d1 e1 => ?_)
      obtain ⟨a, vs, rfl, dl, sy⟩ := d1.stayF
      exact ⟨a, rfl, ⟨vs, sy.here⟩, p W1 H1 _ e1 r1 (itok_list dl sy)⟩
    | str l =>
      have p : ∀ W' H' J, Ext W s σ H W' s1 σ H' → Rel X.K W' s1 σ H' → ItOk X.K J W' H' (l.map fun c => .str [c]) → R J H' := p
      refine .inr (.inr (.inl (main fun W1 H1 v r1 d1 e1 => ?_)))
      obtain rfl := DenC.str (.inl d1)
      refine ⟨st l, rfl, p W1 H1 _ e1 r1 ?_⟩
      intro W2 s2 σ2 H2 e2 r2 i
      have hsz : (st l).cps.size = l.length := by simp [st]
      refine ⟨fun d hd => ?_, fun hi => by show (st l).cps.size ≤ i; rw [hsz]; rw [List.length_map] at hi; exact Nat.le_of_eq hi.symm⟩
      rw [List.getElem?_map] at hd
      cases q2 : l[i]? with
      | none => rw [q2] at hd; cases hd
      | some c =>
        rw [q2] at hd
        cases hd
        have hi : i < l.length := (List.getElem?_eq_some_iff.mp q2).1
        refine ⟨by show i < (st l).cps.size; rw [hsz]; exact hi, fun x H' ⟨eH, c', hc, ex⟩ => ?_⟩
        subst eH
        have hc' : l[i]? = some c' := by simpa [st] using hc
        rw [q2] at hc'
        cases hc'
        rw [ex]
        exact ⟨Ext.refl, r2, .str [c]⟩
    | dic l =>
      have p : ∀ W' H' J, Ext W s σ H W' s1 σ H' → Rel X.K W' s1 σ H' → ItOk X.K J W' H' (l.map fun p => kD p.1) → R J H' := p
      refine .inr (.inr (.inr (main fun W1 H1 v r1 d1 e1 => ?_)))
      cases d1 with
      | @dic a kvs _ z hr dl =>
        rcases hr with hr | ⟨o, hr⟩
        · refine ⟨a, rfl, .inr (.inr (.inl ⟨kvs, hr, fun o => ?_⟩))⟩
          obtain ⟨x1, x2, x3⟩ := r1.lock z hr (.inl ⟨_, rfl⟩) o
          exact p W1 _ _ (e1.trans x1) x2 (itok_keys (dl.stab x3) upd_same)
        · exact ⟨a, rfl, .inl ⟨o, kvs, hr, p W1 H1 _ e1 r1 (itok_keys dl hr)⟩⟩
    | dit l =>
      have zl : (l.all fun p => !sT (p.1.map kD)) = true := by
        cases q : l.all fun p => !sT (p.1.map kD) with
        | true => rfl
        | false => simp only [walk?, q, Bool.false_eq_true, if_false] at p
      simp only [walk?, zl, if_true] at p
      have p : ∀ W' H' J, Ext W s σ H W' s1 σ H' → Rel X.K W' s1 σ H' → ItOk X.K J W' H' (l.map fun p => D.tup (p.1.map kD)) → R J H' := p
      refine .inr (.inr (.inr (main fun W1 H1 v r1 d1 e1 => ?_)))
      cases d1 with
      | @dit a kvs _ z hr dl =>
        rcases hr with hr | ⟨o, hr⟩
        · refine ⟨a, rfl, .inr (.inr (.inr ⟨kvs, hr, fun o => ?_⟩))⟩
          obtain ⟨x1, x2, x3⟩ := r1.lock z hr (.inr ⟨_, rfl⟩) o
          exact p W1 _ _ (e1.trans x1) x2 (itok_keysT zl (dl.stab x3) upd_same)
        · exact ⟨a, rfl, .inr (.inl ⟨o, kvs, hr, p W1 H1 _ e1 r1 (itok_keysT zl dl hr)⟩)⟩
    | non => exact p.elim
    | bl _ => exact p.elim
    | int _ => exact p.elim
    | ref _ => exact p.elim
    | rep _ => exact p.elim
end

theorem numbered_get : ∀ {l : List D} {n : Int} {i : Nat} {d : D}, (numbered n l)[i]? = some d → ∃ x, l[i]? = some x ∧ d = .tup [.int (n + i), x]
  | [], n, i, d, h => by simp [numbered] at h
  | x :: r, n, 0, d, h => by simp [numbered] at h; exact ⟨x, rfl, by rw [← h]; simp⟩
  | x :: r, n, i + 1, d, h => by
    obtain ⟨y, h1, h2⟩ := numbered_get (l := r) (n := n + 1) (i := i) (d := d) (by simpa [numbered] using h)
    exact ⟨y, by simpa using h1, by rw [h2]; congr 3; omega⟩
theorem numbered_len : ∀ (l : List D) (n : Int), (numbered n l).length = l.length
  | [], _ => rfl
  | _ :: r, n => by rw [numbered, List.length_cons, numbered_len r, List.length_cons]
theorem zipped_get : ∀ {l m : List D} {i : Nat} {d : D}, (zipped l m)[i]? = some d → ∃ x y, l[i]? = some x ∧ m[i]? = some y ∧ d = .tup [x, y]
  | [], m, i, d, h => by simp [zipped] at h
  | x :: r, [], i, d, h => by simp [zipped] at h
  | x :: r, y :: q, 0, d, h => by simp [zipped] at h; exact ⟨x, y, rfl, rfl, h.symm⟩
  | x :: r, y :: q, i + 1, d, h => by
    obtain ⟨a, b, h1, h2, h3⟩ := zipped_get (l := r) (m := q) (i := i) (d := d) (by simpa [zipped] using h)
    exact ⟨a, b, by simpa using h1, by simpa using h2, h3⟩
theorem zipped_len : ∀ (l m : List D), (zipped l m).length = min l.length m.length
  | [], m => by simp [zipped]
  | x :: r, [] => by simp [zipped]
  | x :: r, y :: q => by simp [zipped, zipped_len r q]
theorem upby_get {c : Int} : ∀ {n i : Nat} {lo : Int} {d : D}, (upby lo c n)[i]? = some d → i < n ∧ d = .int (lo + i * c)
  | 0, i, lo, d, h => by simp [upby] at h
  | n + 1, 0, lo, d, h => by simp [upby] at h; exact ⟨by omega, by rw [← h]; simp⟩
  | n + 1, i + 1, lo, d, h => by
    obtain ⟨h1, h2⟩ := upby_get (lo := lo + c) (i := i) (by simpa [upby] using h)
    refine ⟨by omega, ?_⟩
    rw [h2]
    congr 1
    push_cast
    rw [Int.add_mul]
    omega
theorem upby_len (c : Int) : ∀ (n : Nat) (lo : Int), (upby lo c n).length = n
  | 0, _ => rfl
  | n + 1, lo => by rw [upby, List.length_cons, upby_len c n]
section
variable {F : Fg} {W0 : Wd} {H0 : Hp}
theorem itok_by {lo c : Int} {n : Nat} : ItOk F (Itc lo c n) W0 H0 (upby lo c n) := by
  intro W s σ H e r i
  refine ⟨fun d hd => ?_, fun hi => by rw [upby_len] at hi; exact Nat.le_of_eq hi.symm⟩
  obtain ⟨h1, rfl⟩ := upby_get hd
  refine ⟨h1, fun x H' ⟨eH, ex⟩ => ?_⟩
  subst eH ex
  exact ⟨Ext.refl, r, .int _⟩
theorem pair_new {W : Wd} {s : S} {σ : St} {H : Hp} (r : Rel F W s σ H) {T : Addr} (hT : H T = none) {x y : V} {a b : D} (d1 : Den F W H x a) (d2 : Den F W H y b) (z : sT [a, b] = false) :
    Ext W s σ H W s σ (upd H T (.tup [x, y])) ∧ Rel F W s σ (upd H T (.tup [x, y])) ∧ Den F W (upd H T (.tup [x, y])) (.ref T) (.tup [a, b]) :=
  ⟨Ext.new hT, r.new hT, .tup (.inr ⟨z, upd_same⟩) (.cons (d1.stab (r.stab_new hT)) (.cons (d2.stab (r.stab_new hT)) .nil))⟩
theorem itok_enum {a : Addr} {vs : List V} {l : List D} (dl : DenL F W0 H0 vs l) (h : StayL F W0 H0 a vs) : ItOk F (Ite F a) W0 H0 (numbered 0 l) := by
  intro W s σ H e r i
  have h1 := h W H e
  refine ⟨fun d hd => ?_, fun hi => ⟨vs, h1, by rw [dl.length]; rw [numbered_len] at hi; exact Nat.le_of_eq hi.symm⟩⟩
  obtain ⟨x, hx, rfl⟩ := numbered_get hd
  obtain ⟨y, ey, dy⟩ := (dl.stab e).get hx
  refine ⟨⟨vs, y, h1, ey⟩, fun v H' ⟨T, y', ev, hT, eH, hy⟩ => ?_⟩
  subst ev eH
  have := hy vs h1
  rw [ey] at this
  cases this
  rw [Int.zero_add]
  exact pair_new r hT (.int _) dy rfl
theorem itok_enumT {a : Addr} {vs : List V} {l : List D} (dl : DenL F W0 H0 vs l) (h : StayT F W0 H0 a vs) : ItOk F (IteT F a) W0 H0 (numbered 0 l) := by
  intro W s σ H e r i
  have h1 := h W H e
  refine ⟨fun d hd => ?_, fun hi => ⟨vs, h1, by rw [dl.length]; rw [numbered_len] at hi; exact hi.symm⟩⟩
  obtain ⟨x, hx, rfl⟩ := numbered_get hd
  obtain ⟨y, ey, dy⟩ := (dl.stab e).get hx
  refine ⟨⟨vs, y, h1, ey⟩, fun v H' ⟨T, y', ev, hT, eH, hy⟩ => ?_⟩
  subst ev eH
  have := hy vs h1
  rw [ey] at this
  cases this
  rw [Int.zero_add]
  exact pair_new r hT (.int _) dy rfl
theorem min_end {i a b : Nat} (h : i = min a b) : a ≤ i ∨ b ≤ i := by omega
theorem itok_zip {a b : Addr} {vs us : List V} {l m : List D} (dl : DenL F W0 H0 vs l) (dm : DenL F W0 H0 us m) (h : StayL F W0 H0 a vs) (k : StayL F W0 H0 b us) (z : pairOk (zipped l m) = true) : ItOk F (Itz F a b) W0 H0 (zipped l m) := by
  intro W s σ H e r i
  have h1 := h W H e
  have k1 := k W H e
  refine ⟨fun d hd => ?_, fun hi => ⟨vs, us, h1, k1, by rw [dl.length, dm.length]; rw [zipped_len] at hi; exact min_end hi⟩⟩
  have hz := List.all_eq_true.mp z _ (List.mem_of_getElem? hd)
  obtain ⟨x, y, hx, hy, rfl⟩ := zipped_get hd
  obtain ⟨x', ex, dx⟩ := (dl.stab e).get hx
  obtain ⟨y', ey, dy⟩ := (dm.stab e).get hy
  refine ⟨⟨vs, us, x', y', h1, k1, ex, ey⟩, fun v H' ⟨T, x2, y2, ev, hT, eH, hx2, hy2⟩ => ?_⟩
  subst ev eH
  have := hx2 vs h1
  rw [ex] at this
  cases this
  have := hy2 us k1
  rw [ey] at this
  cases this
  exact pair_new r hT dx dy (by simpa using hz)
theorem itok_zipT {a b : Addr} {vs us : List V} {l m : List D} (dl : DenL F W0 H0 vs l) (dm : DenL F W0 H0 us m) (h : StayT F W0 H0 a vs) (k : StayT F W0 H0 b us) (z : pairOk (zipped l m) = true) : ItOk F (RZ.ItzT F a b) W0 H0 (zipped l m) := by
  intro W s σ H e r i
  have h1 := h W H e
  have k1 := k W H e
  refine ⟨fun d hd => ?_, fun hi => ⟨vs, us, h1, k1, by rw [dl.length, dm.length]; rw [zipped_len] at hi; exact min_end hi⟩⟩
  have hz := List.all_eq_true.mp z _ (List.mem_of_getElem? hd)
  obtain ⟨x, y, hx, hy, rfl⟩ := zipped_get hd
  obtain ⟨x', ex, dx⟩ := (dl.stab e).get hx
  obtain ⟨y', ey, dy⟩ := (dm.stab e).get hy
  refine ⟨⟨vs, us, x', y', h1, k1, ex, ey⟩, fun v H' ⟨T, x2, y2, ev, hT, eH, hx2, hy2⟩ => ?_⟩
  subst ev eH
  have := hx2 vs h1
  rw [ex] at this
  cases this
  have := hy2 us k1
  rw [ey] at this
  cases this
  exact pair_new r hT dx dy (by simpa using hz)
end
/-! ### built-in iterators -/
section
variable {X : Cx} {Wx : WX} {g : G} {pos p0 : Pos} {tg e a b : Expr} {es : List Expr}
theorem tix_args {F : Fg} {f : List D → Option (List D)} {ca : Ax} {σ : St} {H : Hp} {R : It → Hp → Prop} (h : tix F Wx g (iArgs f ca) σ H R) {Q : List V → Hp → Prop}
    (k : ∀ ds s1 W1 H1 vs l, f ds = some l → Rel F W1 s1 σ H1 → DenL F W1 H1 vs ds → (∀ J, ItOk F J W1 H1 l → R J H1) → Q vs H1) : tax F Wx g ca σ H Q := by
  obtain ⟨W, s, r, p⟩ := h
  refine ⟨W, s, r, ?_⟩
  cases q : ca g s with
  | bad => simp only [iArgs, q, Res.bind] at p
  | exc x s1 => simp only [iArgs, q, Res.bind] at p; exact p
  | ok ds s1 =>
    simp only [iArgs, q, Res.bind] at p
    intro W1 H1 vs e1 r1 d1
    cases z : f ds with
    | none => rw [z] at p; exact p.elim
    | some l =>
      rw [z] at p
      exact k ds s1 W1 H1 vs l z r1 d1 fun J it => p W1 H1 J e1 r1 it
theorem smallI_b {i : Int} (h : smallI i = true) : -(2 ^ 62) ≤ i ∧ i < 2 ^ 62 := by
  unfold smallI at h
  rw [Bool.and_eq_true, decide_eq_true_eq, decide_eq_true_eq] at h
  omega
theorem si_rng1 {ca : Ax} (hg : Gl X "range") (hm : X.mg "range" = none) (ha : PA X [a] (tax X.K Wx g ca)) (hs : isStar a = false) : PI X tg (.Call (.Name "range" p0) [a] [] pos) (tix X.K Wx g (iArgs fRng1 ca)) := by
  refine (pi_range1 hg hm ha (starEach_of hs)).mono fun σ H R h => ?_
  refine tix_args h fun ds s1 W1 H1 vs l hf r1 d1 k => ?_
  unfold fRng1 at hf
  split at hf
  · rename_i j
    split at hf
    · rename_i sm
      cases hf
      obtain ⟨h1, h2⟩ := smallI_b sm
      cases d1 with
      | cons d1 d2 =>
        cases d2
        rw [d1.intv]
        exact ⟨j, rfl, h1, h2, k _ itok_range⟩
    · cases hf
  · cases hf
theorem si_rng2 {ca : Ax} (hg : Gl X "range") (hm : X.mg "range" = none) (ha : PA X [a, b] (tax X.K Wx g ca)) (hs : isStar a = false) (hs2 : isStar b = false) : PI X tg (.Call (.Name "range" p0) [a, b] [] pos) (tix X.K Wx g (iArgs fRng2 ca)) := by
  refine (pi_range2 hg hm ha (by rw [starEach_of hs, starEach_of hs2]; rfl) (by rw [starEach_of hs2]; rfl)).mono fun σ H R h => ?_
  refine tix_args h fun ds s1 W1 H1 vs l hf r1 d1 k => ?_
  unfold fRng2 at hf
  split at hf
  · rename_i i j
    split at hf
    · rename_i sm
      cases hf
      rw [Bool.and_eq_true] at sm
      obtain ⟨h1, h2⟩ := smallI_b sm.1
      obtain ⟨h3, h4⟩ := smallI_b sm.2
      cases d1 with
      | cons d1 d2 =>
        cases d2 with
        | cons d2 d3 =>
          cases d3
          rw [d1.intv, d2.intv]
          exact ⟨i, j, rfl, ⟨h1, h2, h3, h4⟩, k _ itok_range⟩
    · cases hf
  · cases hf
theorem rg_up {i j c : Int} (c1 : 1 ≤ c) (c2 : c ≤ 1000) (h1 : -(2 ^ 40) ≤ i ∧ i ≤ 2 ^ 40) (h2 : -(2 ^ 40) ≤ j ∧ j ≤ 2 ^ 40) : RgC i j c (if i < j then (j - i - 1) / c + 1 else 0).toNat := by
  have q0 : 0 ≤ (j - i - 1) / c ∨ ¬ i < j := by
    by_cases h : i < j
    · exact .inl (Int.ediv_nonneg (by omega) (by omega))
    · exact .inr h
  have q1 : i < j → (j - i - 1) / c ≤ j - i - 1 := fun h => Int.ediv_le_self _ (by omega)
  have e : Builtin.Range.rangeSize i j c = if i < j then (j - i - 1) / c + 1 else 0 := by
    unfold Builtin.Range.rangeSize
    rw [if_pos (by omega)]
  refine ⟨by omega, by omega, ?_, ?_⟩
  · unfold Builtin.Range.small
    rw [e]
    simp only [Builtin.Range.rangeFitsLong, Bool.and_eq_true, Bool.or_eq_true, decide_eq_true_eq, beq_iff_eq, show c > 0 by omega, if_true]
    split
    · rename_i h
      have := q1 h
      omega
    · omega
  · rw [e]
    split
    · rename_i h
      have := q0.resolve_right (fun z => z h)
      omega
    · rfl
theorem si_rngD {c : Expr} {ca : Ax} (hg : Gl X "range") (hm : X.mg "range" = none) (ha : PA X [a, b, c] (tax X.K Wx g ca)) (hs : isStar a = false) (hs2 : isStar b = false) (hs3 : isStar c = false) : PI X tg (.Call (.Name "range" p0) [a, b, c] [] pos) (tix X.K Wx g (iArgs fRngD ca)) := by
  refine (pi_range3 hg hm ha (starEach_of hs) (by rw [starEach_of hs2, starEach_of hs3]; rfl)).mono fun σ H R h => ?_
  refine tix_args h fun ds s1 W1 H1 vs l hf r1 d1 k => ?_
  unfold fRngD at hf
  split at hf
  · rename_i i j c
    split at hf
    · rename_i sm
      rw [Bool.and_eq_true] at sm
      obtain ⟨h1, h2⟩ := smallI_b sm.1
      obtain ⟨h3, h4⟩ := smallI_b sm.2
      have sm1 := sm.1
      have sm2 := sm.2
      unfold smallI at sm1 sm2
      rw [Bool.and_eq_true, decide_eq_true_eq, decide_eq_true_eq] at sm1 sm2
      cases d1 with
      | cons d1 d2 =>
        cases d2 with
        | cons d2 d3 =>
          cases d3 with
          | cons d3 d4 =>
            cases d4
            rw [d1.intv, d2.intv, d3.intv]
            split at hf
            · rename_i e
              subst e
              cases hf
              exact ⟨i, j, -1, _, rfl, RgC.neg h1 h2 h3 h4, k _ itok_by⟩
            · split at hf
              · rename_i hc
                rw [Bool.and_eq_true, decide_eq_true_eq, decide_eq_true_eq] at hc
                cases hf
                refine ⟨i, j, c, _, rfl, rg_up hc.1 hc.2 sm1 sm2, k _ itok_by⟩
              · cases hf
    · cases hf
  · cases hf
theorem si_enum {elts : List Expr} {kk : Nat} {tpos : Pos} {ca : Ax} (hg : Gl X "enumerate") (hm : X.mg "enumerate" = none) (ha : PA X [a] (tax X.K Wx g ca)) (hs : isStar a = false) :
    PI X (.Tuple elts kk tpos) (.Call (.Name "enumerate" p0) [a] [] pos) (tix X.K Wx g (iArgs fEnumL ca)) := by
  refine ((pi_enum hg hm ha (starEach_of hs)).or (pi_enumT hg hm ha (starEach_of hs))).mono fun σ H R h => ?_
  obtain ⟨W, s, r, p⟩ := id h
  cases q : ca g s with
  | bad => simp only [iArgs, q, Res.bind] at p
  | exc x s1 => simp only [iArgs, q, Res.bind] at p; exact .inl ⟨W, s, r, by rw [q]; exact p⟩
  | ok ds s1 =>
    simp only [iArgs, q, Res.bind] at p
    cases z : fEnumL ds with
    | none => simp only [z] at p
    | some l0 =>
    simp only [z] at p
    have main : ∀ {Q : List V → Hp → Prop}, (∀ W1 H1 vs, Rel X.K W1 s1 σ H1 → DenL X.K W1 H1 vs ds → (∀ J, ItOk X.K J W1 H1 l0 → R J H1) → Q vs H1) → tax X.K Wx g ca σ H Q :=
      fun {Q} k => ⟨W, s, r, by rw [q]; exact fun W1 H1 vs e1 r1 d1 => k W1 H1 vs r1 d1 fun J it => p W1 H1 J e1 r1 it⟩
    unfold fEnumL at z
    split at z
    · cases z
      refine .inl (main fun W1 H1 vs r1 d1 k => ?_)
      cases d1 with
      | cons d1 d2 =>
        cases d2
        obtain ⟨ad, us, rfl, dl, sy⟩ := d1.stayL
        exact ⟨ad, us, rfl, sy.here, k _ (itok_enum dl sy)⟩
    · cases z
      refine .inl (main fun W1 H1 vs r1 d1 k => ?_)
      cases d1 with
      | cons d1 d2 =>
        cases d2
        obtain ⟨ad, us, rfl, dl, sy⟩ := d1.stayF
        exact ⟨ad, us, rfl, sy.here, k _ (itok_enum dl sy)⟩
    · cases z
      refine .inr (main fun W1 H1 vs r1 d1 k => ?_)
      cases d1 with
      | cons d1 d2 =>
        cases d2
        obtain ⟨ad, us, rfl, dl, sy⟩ := d1.stayT
        exact ⟨ad, us, rfl, sy.here, k _ (itok_enumT dl sy)⟩
    · cases z
      refine .inr (main fun W1 H1 vs r1 d1 k => ?_)
      cases d1 with
      | cons d1 d2 =>
        cases d2
        obtain ⟨ad, us, rfl, dl, sy⟩ := d1.stayU
        exact ⟨ad, us, rfl, sy.here, k _ (itok_enumT dl sy)⟩
    · cases z
theorem si_zip {elts : List Expr} {kk : Nat} {tpos : Pos} {ca : Ax} (hg : Gl X "zip") (hm : X.mg "zip" = none) (ha : PA X [a, b] (tax X.K Wx g ca)) (hs : isStar a = false) (hs2 : isStar b = false) :
    PI X (.Tuple elts kk tpos) (.Call (.Name "zip" p0) [a, b] [] pos) (tix X.K Wx g (iArgs fZip ca)) := by
  refine (RZ.pi_zipA hg hm ha (starEach_of hs) (by rw [starEach_of hs2]; rfl)).mono fun σ H R h => ?_
  refine tix_args h fun ds s1 W1 H1 vs l hf r1 d1 k => ?_
  unfold fZip at hf
  split at hf
  · rename_i l m
    have z : pairOk (zipped l m) = true := by
      cases q : pairOk (zipped l m) with
      | true => rfl
      | false => simp [q] at hf
    rw [if_pos z] at hf
    cases hf
    cases d1 with
    | cons d1 d2 =>
      cases d2 with
      | cons d2 d3 =>
        cases d3
        obtain ⟨ad, us, rfl, dl, sy⟩ := d1.stayL
        obtain ⟨ad2, us2, rfl, dl2, sy2⟩ := d2.stayL
        exact ⟨ad, ad2, us, us2, rfl, .inl ⟨sy.here, sy2.here, k _ (itok_zip dl dl2 sy sy2 z)⟩⟩
  · rename_i l m
    have z : pairOk (zipped l m) = true := by
      cases q : pairOk (zipped l m) with
      | true => rfl
      | false => simp [q] at hf
    rw [if_pos z] at hf
    cases hf
    cases d1 with
    | cons d1 d2 =>
      cases d2 with
      | cons d2 d3 =>
        cases d3
        obtain ⟨ad, us, rfl, dl, sy⟩ := d1.stayT
        obtain ⟨ad2, us2, rfl, dl2, sy2⟩ := d2.stayT
        exact ⟨ad, ad2, us, us2, rfl, .inr ⟨sy.here, sy2.here, k _ (itok_zipT dl dl2 sy sy2 z)⟩⟩
  · cases hf
end

/-! ### loops -/
def isSet : Expr → Bool
  | .Set .. => true
  | _ => false
theorem folded_of {e : Expr} {env : Env} (h : isSet e = false) : ∀ x, foldedSetIterable e env x = pure x := by
  intro x
  cases e <;> first | rfl | cases h
section
variable {X : Cx} {Wx : WX} {g : G} {pos : Pos} {tge e : Expr} {body : List Stmt}
theorem for_run {F : Fg} {it : Ix} {tg : Tg} {t : TG} {b : Bl} {js : List Nat} (hg : TgOk F js tg t) {En : Ends} {σ : St} {H : Hp} (h : tst F Wx g (forS it tg b) En σ H) : tFor (tix F Wx g it) t (tst F Wx g b) En σ H := by
  obtain ⟨W, s, r, p⟩ := h
  refine ⟨W, s, r, ?_⟩
  unfold forS at p
  cases q : it g s with
  | bad => rw [q] at p; exact p
  | exc x s1 => rw [q] at p; exact fun W' H' c d e' r' x' => p W' σ H' c d e' r' x'
  | ok ds s1 =>
    rw [q] at p
    intro W1 H1 J e1 r1 io
    have p : PostF F Wx W1 s1 σ H1 En (forL tg b g ds s1) := PostF.shift e1 p
    refine ⟨fun i m σ2 H2 => m = ds.length - i ∧ i ≤ ds.length ∧ ∃ W2 s2, Stab W1 H1 W2 H2 ∧ Rel F W2 s2 σ2 H2 ∧ PostF F Wx W2 s2 σ2 H2 En (forL tg b g (ds.drop i) s2), ⟨ds.length, by simp, by simp, W1, s1, Stab.refl, r1, p⟩, ?_⟩
    rintro i m σ2 H2 ⟨rfl, hi, W2, s2, st2, r2, p2⟩
    obtain ⟨i1, i2⟩ := io W2 s2 σ2 H2 st2 r2 i
    by_cases z : i = ds.length
    · refine .inl ⟨i2 z, ?_⟩
      rw [z, List.drop_length] at p2
      exact p2 W2 σ2 H2 Ext.refl r2
    · have lt : i < ds.length := Nat.lt_of_le_of_ne hi z
      obtain ⟨i1, i3⟩ := i1 ds[i] (List.getElem?_eq_getElem lt)
      refine .inr ⟨i1, fun σ' H' => ∃ m', m' < ds.length - i ∧ _, fun σ' H' h => h, fun x H' hy => ?_⟩
      obtain ⟨e3, r3, d3⟩ := i3 x H' hy
      rw [List.drop_eq_getElem_cons lt] at p2
      unfold forL at p2
      cases q2 : tg ds[i] s2 with
      | none => simp only [q2] at p2; exact p2.elim
      | some s3 =>
        simp only [q2] at p2
        refine hg W2 s2 s3 σ2 H' x _ _ r3 d3 q2 fun σ3 r4 e4 _ => ⟨W2, s3, r4, ?_⟩
        have e5 := e3.trans e4
        have st4 : Stab W1 H1 W2 H' := (st2.trans (e3.stab r2)).trans (e4.stab r3)
        have p2 := PostF.shift e5 p2
        have turn : ∀ {s5 : S} {W5 : Wd} {σ5 : St} {H5 : Hp}, Ext W2 s3 σ3 H' W5 s5 σ5 H5 → Rel F W5 s5 σ5 H5 → PostF F Wx W5 s5 σ5 H5 En (forL tg b g (ds.drop (i + 1)) s5) →
            ∃ m', m' < ds.length - i ∧ m' = ds.length - (i + 1) ∧ i + 1 ≤ ds.length ∧ ∃ W2 s2, Stab W1 H1 W2 H5 ∧ Rel F W2 s2 σ5 H5 ∧ PostF F Wx W2 s2 σ5 H5 En (forL tg b g (ds.drop (i + 1)) s2) :=
          fun {s5 W5 σ5 H5} e r p => ⟨_, by omega, rfl, lt, W5, s5, st4.trans (e.stab r4), r, p⟩
        cases q3 : b g s3 with
        | bad => rw [q3] at p2; exact p2
        | nx s4 => rw [q3] at p2; exact fun W5 σ5 H5 e r => turn e r (PostF.shift e p2)
        | ct s4 => rw [q3] at p2; exact fun W5 σ5 H5 e r => turn e r (PostF.shift e p2)
        | bk s4 => rw [q3] at p2; exact p2
        | rt d h => rw [q3] at p2; exact p2
        | exc x s4 => rw [q3] at p2; exact p2
theorem ss_for {it : Ix} {tg : Tg} {t : TG} {b : Bl} {js : List Nat} (cc : Cc X Wx) (hi : PI X tge e (tix X.K Wx g it)) (hp : PG X tge t) (hg : TgOk X.K js tg t) (hb : PSs X body (tst X.K Wx g b)) (hs : isSet e = false) : PS X (.For tge e body [] pos) (tst X.K Wx g (forS it tg b)) :=
  (ps_for cc.po cc.calm hi hp hb (folded_of hs)).mono fun En σ H h => for_run hg h
theorem while_run {F : Fg} {t : Tx} {b : Bl} {En : Ends} {σ : St} {H : Hp} (h : tst F Wx g (whileS t b) En σ H) : tWhile (ttx F Wx g t) (tst F Wx g b) En σ H := by
  obtain ⟨W, s, r, p⟩ := h
  refine ⟨fun m σ2 H2 => ∃ W2 s2, Rel F W2 s2 σ2 H2 ∧ PostF F Wx W2 s2 σ2 H2 En (whileL t b g m s2), ⟨1000000, W, s, r, p⟩, ?_⟩
  rintro m σ2 H2 ⟨W2, s2, r2, p2⟩
  cases m with
  | zero => exact p2.elim
  | succ m =>
    refine ⟨W2, s2, r2, ?_⟩
    unfold whileL at p2
    cases q : t g s2 with
    | bad => rw [q] at p2; exact p2
    | exc x s3 => rw [q] at p2; exact fun W' H' c d e' r' x' => p2 W' σ2 H' c d e' r' x'
    | ok c s3 =>
      rw [q] at p2
      intro W3 H3 v e3 r3 hv
      subst hv
      cases v with
      | false => exact p2 W3 σ2 H3 e3 r3
      | true =>
        have p2 := PostF.shift e3 p2
        refine ⟨fun σ' H' => ∃ m', m' < m + 1 ∧ _, fun σ' H' h => h, W3, s3, r3, ?_⟩
        cases q3 : b g s3 with
        | bad => simp only [q3] at p2; exact p2
        | nx s4 => simp only [q3] at p2; exact fun W5 σ5 H5 e r => ⟨m, Nat.lt_succ_self m, W5, s4, r, PostF.shift e p2⟩
        | ct s4 => simp only [q3] at p2; exact fun W5 σ5 H5 e r => ⟨m, Nat.lt_succ_self m, W5, s4, r, PostF.shift e p2⟩
        | bk s4 => simp only [q3] at p2; exact p2
        | rt d h => simp only [q3] at p2; exact p2
        | exc x s4 => simp only [q3] at p2; exact p2
theorem ss_while {c : Expr} {t : Tx} {b : Bl} (cc : Cc X Wx) (hc : PT X c (ttx X.K Wx g t)) (hb : PSs X body (tst X.K Wx g b)) : PS X (.While c body [] pos) (tst X.K Wx g (whileS t b)) :=
  (ps_while cc.po hc hb).mono fun En σ H h => while_run h
end
end Cy

set_option Elab.async false
set_option linter.all false
set_option maxRecDepth 100000
/-! Cy over the hand layer: what is just made, comprehensions. -/
namespace Cy
open L2 PySem PySem.Spec PyProof.Rows

/-! ### a thing that nobody else holds -/
structure Acc (F : Fg) (W : Wd) (s : S) (σ : St) (H : Hp) (a : Addr) (d : D) : Prop where
  ob : OwnOb F W H a d
  nf : ¬ W.frz a
  nr : ∀ n, W.ref n ≠ some a
  no : ¬ OwnAt s σ a
section
variable {F : Fg} {W W' W0 : Wd} {s s' s0 : S} {σ σ' σ0 : St} {H H' H0 : Hp} {a : Addr} {d : D} {o : HO}
theorem OwnOb.some (h : OwnOb F W H a d) : ∃ o, H a = some o ∧ LD (some o) := by
  have l := h.ld
  cases q : H a with
  | none => rw [q] at l; exact l.elim
  | some o => rw [q] at l; exact ⟨o, rfl, l⟩
theorem Acc.ext (A : Acc F W s σ H a d) (r : Rel F W s σ H) (e : Ext W s σ H W' s' σ' H') : Acc F W' s' σ' H' a d := by
  obtain ⟨o, h, _⟩ := A.ob.some
  obtain ⟨k1, k2, k3⟩ := e.keep a o h A.no A.nr
  exact ⟨A.ob.stab (e.stab r) ((k1.same A.nf).trans h.symm), fun z => A.nf (k2 z), k3, fun z => A.no (e.own a (by rw [h]; exact Option.some_ne_none _) z)⟩
theorem Acc.stab_touch (A : Acc F W s σ H a d) : Stab W H W (upd H a o) := by
  obtain ⟨o', h, l⟩ := A.ob.some
  refine ⟨fun b hb => ⟨hb, keep_frz (upd_ne fun e => A.nf (by rw [← e]; exact hb))⟩, fun b xs hb => ?_, fun b ob u hb => ?_, fun _ _ h => h⟩
  · by_cases e : b = a
    · subst e; rw [h] at hb; cases hb; exact l.elim
    · rw [upd_ne e]; exact hb
  · by_cases e : b = a
    · subst e; rw [h] at hb; cases hb; exact l.elim
    · rw [upd_ne e]; exact hb
theorem Acc.rel_touch (A : Acc F W s σ H a d) (r : Rel F W s σ H) : Rel F W s σ (upd H a o) := by
  have t : Stab W H W (upd H a o) := A.stab_touch
  have obj : ∀ {b : Addr} {d' : D}, OwnOb F W H b d' → b ≠ a → OwnOb F W (upd H a o) b d' := fun q ne => q.stab t (upd_ne ne)
  refine ⟨r.len, fun i d' h => ?_, fun i d' h => ?_, r.sep, fun b hb => ?_, fun n b hb => ?_, r.hp.all, r.hp.inj, r.hp.nor⟩
  · obtain ⟨v, e, q⟩ := r.val i d' h
    exact ⟨v, e, q.stab t⟩
  · obtain ⟨b, e, q, nf, nr⟩ := r.own i d' h
    exact ⟨b, e, obj q fun z => A.no ⟨i, d', h, z ▸ e⟩, nf, nr⟩
  · rw [upd_ne fun e => A.nf (by rw [← e]; exact hb)]; exact r.hp.frz b hb
  · obtain ⟨nf, ob, e, q⟩ := r.hp.refs n b hb
    exact ⟨nf, ob, e, obj q fun z => A.nr n (z ▸ hb)⟩
theorem Ext.touch (e : Ext W0 s0 σ0 H0 W s σ H) (n : H0 a = none) : Ext W0 s0 σ0 H0 W s σ (upd H a o) :=
  ⟨e.ref, e.frz, fun b ob h no nr => let ⟨x, y, z⟩ := e.keep b ob h no nr; ⟨x.upd (ne_of_none h n), y, z⟩, e.own, fun b h => by
    by_cases z : b = a
    · rw [z]; exact n
    · rw [upd_ne z] at h; exact e.trk b h⟩
theorem Acc.new (r : Rel F W s σ H) (n : H a = none) (q : OwnOb F W (upd H a o) a d) : Acc F W s σ (upd H a o) a d := ⟨q, r.fresh_nfrz n, r.fresh_nref n, r.fresh_nown n⟩
theorem OwnOb.ll (h : OwnOb F W H a d) : LL (H a) := h.ld.ll
/-- .. is frozen -/
theorem Acc.freeze (A : Acc F W s σ H a d) (r : Rel F W s σ H) : Rel F (W.fr a) s σ H ∧ Den F (W.fr a) H (.ref a) d := ⟨r.freeze A.ob.ll A.no A.nr, A.ob.fr.den (.inr rfl)⟩
theorem Ext.freezeNew (e : Ext W0 s0 σ0 H0 W s σ H) (n : H0 a = none) : Ext W0 s0 σ0 H0 (W.fr a) s σ H :=
  ⟨e.ref, fun b h => .inl (e.frz b h), fun b ob h no nr => let ⟨x, y, z⟩ := e.keep b ob h no nr; ⟨x, fun q => q.elim y fun q => absurd n (by rw [← q, h]; exact Option.some_ne_none _), z⟩, e.own, e.trk⟩
end

/-! ### readings of what is just made -/
def PostFr (F : Fg) (Wx : WX) (W : Wd) (s : S) (σ : St) (H : Hp) (Q : VK) : Res D → Prop
  | .bad => False
  | .ok d s' => ∀ W' H' a, H a = none → Ext W s σ H W' s' σ H' → Rel F W' s' σ H' → Acc F W' s' σ H' a d → Q (.ref a) H'
  | .exc x s' => ∀ W' H' cls dct, Ext W s σ H W' s' σ H' → Rel F W' s' σ H' → ExcD F W' H' x cls dct → Wx cls dct σ H'
def tfr (F : Fg) (Wx : WX) (g : G) (c : Ex) : TE := fun σ H Q => ∃ W s, Rel F W s σ H ∧ PostFr F Wx W s σ H Q (c g s)
section
variable {F : Fg} {Wx : WX} {g : G} {W W1 : Wd} {s s1 : S} {σ : St} {H H1 : Hp} {Q : VK}
theorem tfr_of {c : Ex} (h : tev F Wx g c σ H Q) : tfr F Wx g c σ H Q := by
  obtain ⟨W, s, r, p⟩ := h
  refine ⟨W, s, r, ?_⟩
  cases q : c g s with
  | bad => rw [q] at p; exact p
  | exc x s1 => rw [q] at p; exact p
  | ok d s1 =>
    rw [q] at p
    intro W' H' a n e r' A
    obtain ⟨r2, d2⟩ := A.freeze r'
    exact p _ _ _ (e.freezeNew n) r2 d2
theorem PostFr.shift {r : Res D} (e : Ext W s σ H W1 s1 σ H1) (p : PostFr F Wx W s σ H Q r) : PostFr F Wx W1 s1 σ H1 Q r := by
  cases r with
  | bad => exact p
  | ok d s' => exact fun W' H' a n e' r' A => p W' H' a (e.trk a n) (e.trans e') r' A
  | exc x s' => exact fun W' H' c d e' r' x' => p W' H' c d (e.trans e') r' x'
theorem fr_bind {α β : Type} {De : Wd → Hp → β → α → Prop} {Q2 : β → Hp → Prop} {a : G → S → Res α} {f : α → S → Res D} (r : Rel F W s σ H) (p : PostFr F Wx W s σ H Q ((a g s).bind f))
    (k : ∀ d s1 W1 H1 v, Ext W s σ H W1 s1 σ H1 → Rel F W1 s1 σ H1 → De W1 H1 v d → PostFr F Wx W1 s1 σ H1 Q (f d s1) → Q2 v H1) : tr F Wx De g a σ H Q2 := by
  refine ⟨W, s, r, ?_⟩
  cases q : a g s with
  | bad => rw [q] at p; exact p
  | ok d s1 =>
    rw [q] at p
    exact fun W1 H1 v e r1 d1 => k d s1 W1 H1 v e r1 d1 (PostFr.shift e p)
  | exc x s1 =>
    rw [q] at p
    exact p
end
section
variable {X : Cx} {Wx : WX} {g : G} {e : Expr} {pos : Pos}
theorem se_fr {c : Ex} (h : PE X e (tfr X.K Wx g c)) : PE X e (tev X.K Wx g c) := h.mono fun _ _ _ h => tfr_of h
theorem sf_bad : PE X e (tfr X.K Wx g badE) := ⟨fun pins s σ H Q I ⟨W, s', r, p⟩ => p.elim⟩
theorem si_bad {tg : Expr} : PI X tg e (tix X.K Wx g badI) := ⟨fun pins s σ H Q I ⟨W, s', r, p⟩ => p.elim⟩
theorem sf_lst {es : List Expr} {c : Ax} (h : PA X es (tax X.K Wx g c)) : PE X (.List es pos) (tfr X.K Wx g (lstE c)) := by
  refine (pe_lst h).mono fun σ H Q ⟨W, s, r, p⟩ => ?_
  refine ⟨W, s, r, ?_⟩
  have p : PostFr X.K Wx W s σ H Q ((c g s).bind fun l s => if l.length ≤ lim then .ok (.lst l) s else .bad) := p
  cases q : c g s with
  | bad => rw [q] at p; exact p
  | exc x s1 => rw [q] at p; exact p
  | ok l s1 =>
    rw [q] at p
    have p : PostFr X.K Wx W s σ H Q (if l.length ≤ lim then .ok (.lst l) s1 else .bad) := p
    by_cases hl : l.length ≤ lim
    · rw [if_pos hl] at p
      exact fun W1 H1 vs e1 r1 d1 => ⟨by rw [d1.length]; exact hl, fun b hb => p W1 _ b (e1.trk b hb) (e1.trans (Ext.new hb)) (r1.new hb) (Acc.new r1 hb ⟨vs, upd_same, d1.stab (r1.stab_new hb)⟩)⟩
    · rw [if_neg hl] at p; exact p.elim
/-- an operation of two things that makes a new thing -/
def FrB1 (F : Fg) (f : List Ob → D → Option D) (r : V → Hp → VK → Prop) : Prop := ∀ (W : Wd) (s : S) (σ : St) (H : Hp) (v : V) (d z : D) (Q : VK), Rel F W s σ H → DenC F W H v d → f s.h d = some z →
  (∀ p o, H p = none → OwnOb F W (upd H p o) p z → Q (.ref p) (upd H p o)) → r v H Q
def FrB2 (F : Fg) (f : List Ob → D → D → Option D) (r : R2) : Prop := ∀ (W : Wd) (s : S) (σ : St) (H : Hp) (v u : V) (d e z : D) (Q : VK), Rel F W s σ H → DenC F W H v d → DenC F W H u e → f s.h d e = some z →
  (∀ p o, H p = none → OwnOb F W (upd H p o) p z → Q (.ref p) (upd H p o)) → r v u H Q
theorem opf_bind {F : Fg} {W : Wd} {s : S} {σ : St} {H : Hp} {Q2 : VK} {o : Op} {f : D → S → Res D} {Q : VK} (r : Rel F W s σ H) (p : PostFr F Wx W s σ H Q2 ((o.ev g s).bind f))
    (k : ∀ d s1 W1 H1 v, Ext W s σ H W1 s1 σ H1 → Rel F W1 s1 σ H1 → OpOk F o d v W1 σ H1 → PostFr F Wx W1 s1 σ H1 Q2 (f d s1) → Q v H1) : top F Wx g o σ H Q := by
  cases o with
  | ex c => exact fr_bind (De := Den F) r p k
  | pk i =>
    show ∃ v, σ[i]? = some (some v) ∧ Q v H
    have p : PostFr F Wx W s σ H Q2 ((evP i s).bind f) := p
    unfold evP at p
    cases q : s.sg[i]? with
    | none => rw [q] at p; exact p.elim
    | some c =>
      rw [q] at p
      cases c with
      | no => exact p.elim
      | val d =>
        obtain ⟨v, e, _⟩ := r.val i d q
        exact ⟨v, e, k _ s W H v Ext.refl r e p⟩
      | own d =>
        obtain ⟨a, e, _⟩ := r.own i d q
        exact ⟨_, e, k _ s W H _ Ext.refl r e p⟩
theorem new_fr {F : Fg} {W : Wd} {s s0 : S} {σ : St} {H H0 : Hp} {W0 : Wd} {z : D} {Q : VK} (r : Rel F W s σ H) (p : ∀ W' H' a, H a = none → Ext W s σ H W' s σ H' → Rel F W' s σ H' → Acc F W' s σ H' a z → Q (.ref a) H') : ∀ b o, H b = none → OwnOb F W (upd H b o) b z → Q (.ref b) (upd H b o) :=
  fun b o hb ob => p W _ b hb (Ext.new hb) (r.new hb) (Acc.new r hb ob)
theorem fr_one {F : Fg} {f : List Ob → D → Option D} {a : Op} {r : V → Hp → VK → Prop} (pr : FrB1 F f r) {σ : St} {H : Hp} {Q : VK} (h : tfr F Wx g (o1 f a) σ H Q) : tUn r (top F Wx g a) σ H Q := by
  obtain ⟨W, s, rl, p⟩ := h
  refine opf_bind rl p fun x s1 W1 H1 v e1 r1 o1 p1 => ?_
  cases q : a.rd x s1 with
  | none => rw [q] at p1; exact p1.elim
  | some d =>
    rw [q] at p1
    cases q2 : f s1.h d with
    | none => simp only [q2] at p1; exact p1.elim
    | some z =>
      simp only [q2] at p1
      exact pr W1 s1 σ H1 v d z Q r1 (o1.den r1 q) q2 (new_fr (s0 := s1) (H0 := H1) (W0 := W1) r1 p1)
theorem fr_two {F : Fg} {f : List Ob → D → D → Option D} {a b : Op} {r : R2} (pr : FrB2 F f r) {σ : St} {H : Hp} {Q : VK} (h : tfr F Wx g (o2 f a b) σ H Q) : tOp r (top F Wx g a) (top F Wx g b) σ H Q := by
  obtain ⟨W, s, rl, p⟩ := h
  refine opf_bind rl p fun x s1 W1 H1 v e1 r1 o1 p1 => ?_
  refine opf_bind r1 p1 fun y s2 W2 H2 u e2 r2 o2 p2 => ?_
  cases q : a.rd x s2 with
  | none => rw [q] at p2; exact p2.elim
  | some d =>
    cases q1 : b.rd y s2 with
    | none => rw [q, q1] at p2; exact p2.elim
    | some e =>
      rw [q, q1] at p2
      cases q2 : f s2.h d e with
      | none => simp only [q2] at p2; exact p2.elim
      | some z =>
        simp only [q2] at p2
        exact pr W2 s2 σ H2 v u d e z Q r2 ((o1.ext r1 e2).den r2 q) (o2.den r2 q1) q2 (new_fr (s0 := s2) (H0 := H2) (W0 := W2) r2 p2)
theorem fr_addL {F : Fg} : FrB2 F (fun _ => dAddL) (rAddA F) := by
  intro W s σ H v u d e z Q r hv hu q k
  cases d with
  | lst x =>
    cases e with
    | lst y =>
      simp only [dAddL] at q
      split at q
      · rename_i hl
        cases q
        obtain ⟨a, vs, rfl, ha, da⟩ := hv.lst
        obtain ⟨b, us, rfl, hb, db⟩ := hu.lst
        exact .inr (.inr (.inr ⟨a, b, vs, us, rfl, rfl, ha, hb, by rw [da.length, db.length]; exact hl, fun p hp => k p _ hp ⟨_, upd_same, (da.append db).stab (r.stab_new hp)⟩⟩))
      · cases q
    | _ => cases q
  | _ => cases q
theorem fr_mulL {F : Fg} : FrB2 F (fun _ => dMulL) (rMulA F) := by
  intro W s σ H v u d e z Q r hv hu q k
  cases d with
  | lst x =>
    cases e with
    | int i =>
      simp only [dMulL] at q
      split at q
      · rename_i hl
        cases q
        rw [Bool.and_eq_true, Bool.and_eq_true, decide_eq_true_eq, decide_eq_true_eq, decide_eq_true_eq] at hl
        obtain ⟨⟨h1, h2⟩, h3⟩ := hl
        obtain ⟨a, vs, rfl, ha, da⟩ := hv.lst
        obtain rfl := hu.int
        exact .inr (.inl ⟨a, i, vs, rfl, rfl, ha, h1, h2, by rw [da.length]; exact h3, fun p hp => k p _ hp ⟨_, upd_same, (da.flatRep _).stab (r.stab_new hp)⟩⟩)
      · cases q
    | _ => cases q
  | _ => cases q
theorem sf_bin {op : Operator} {f : List Ob → D → D → Option D} {r : R2} {a b : Expr} {oa ob : Op} (ho : OpR X (binaryOp op) r) (pr : FrB2 X.K f r) (ha : PE X a (top X.K Wx g oa)) (hb : PE X b (top X.K Wx g ob)) : PE X (.BinOp a op b pos) (tfr X.K Wx g (o2 f oa ob)) :=
  (pe_op ho ha hb).mono fun _ _ _ h => fr_two pr h
/-- a name takes what was just made -/
theorem take_run {F : Fg} {i : Nat} {c : Ex} {En : Ends} {σ : St} {H : Hp} (h : tst F Wx g (take i c) En σ H) : tAsg (tfr F Wx g c) (L2.gName i) En σ H := by
  obtain ⟨W, s, r, p⟩ := h
  rw [take_thn] at p
  have p : PostF F Wx W s σ H En ((c g s).thn fun d s => if i < s.sg.length then .nx { s with sg := s.sg.set i (if ownable d then .own d else .val d) } else .bad) := p
  refine ⟨W, s, r, ?_⟩
  cases q : c g s with
  | bad => rw [q] at p; exact p
  | exc x s1 => rw [q] at p; exact fun W' H' c d e' r' x' => p W' σ H' c d e' r' x'
  | ok d s1 =>
    rw [q] at p
    intro W1 H1 a n e1 r1 A
    have p : PostF F Wx W s σ H En (if i < s1.sg.length then Fl.nx { s1 with sg := s1.sg.set i (if ownable d then Sl.own d else .val d) } else .bad) := p
    have od : ownable d = true := by
      have := A.ob
      cases d <;> first | rfl | exact this.elim
    rw [od] at p
    by_cases hi : i < s1.sg.length
    · rw [if_pos hi] at p
      refine p W1 _ H1 ⟨e1.ref, e1.frz, e1.keep, fun b hb hw => ?_, e1.trk⟩ (r1.storeOwn hi A.ob A.nf A.nr A.no)
      obtain ⟨j, d', h1, h2⟩ := hw
      have h1 : (s1.sg.set i (.own d))[j]? = some (.own d') := h1
      rw [setV_get (r1.len ▸ hi)] at h2
      by_cases z : j = i
      · rw [if_pos z] at h2
        cases h2
        exact absurd n hb
      · rw [if_neg z] at h2
        rcases set_get h1 with ⟨z', _⟩ | ⟨_, h1⟩
        · exact absurd z' z
        · exact e1.own b hb ⟨j, d', h1, h2⟩
    · rw [if_neg hi] at p; exact p.elim
theorem ss_take {i : Nat} {x : Str} {px : Pos} {c : Ex} (hp : PG X (.Name x px) (L2.gName i)) (h : PE X e (tfr X.K Wx g c)) (hs : isComp e = false) (hs2 : swappedStores [.Name x px] e X.env = pure none) : PS X (.Assign [.Name x px] e pos) (tst X.K Wx g (take i c)) := by
  refine (ps_asg h hp ?_ ?_ ?_).mono fun D σ H q => take_run q
  · exact swaps_of (t := some (.Name x px)) (l := pos.line) hs
  · exact hs2
  · exact assignEach_of rfl
end

/-! ### comprehensions -/
def NoX : WX := fun _ _ _ _ => False
abbrev BodyR := St → Hp → Addr → (Hp → Prop) → Prop
/-- a body run on what is gathered at a -/
def BodyOk (F : Fg) (g : G) (f : D → G → S → Res D) (R : BodyR) : Prop := ∀ (W0 : Wd) (s0 : S) (σ0 : St) (H0 : Hp) (W : Wd) (s : S) (σ : St) (H : Hp) (a : Addr) (d : D) (Nx : Hp → Prop), H0 a = none → Ext W0 s0 σ0 H0 W s σ H → Rel F W s σ H → Acc F W s σ H a d →
  (match (f d g s).nox with
    | .ok d' s' => ∀ W' H', Stab W H W' H' → Ext W0 s0 σ0 H0 W' s' σ H' → Rel F W' s' σ H' → Acc F W' s' σ H' a d' → Nx H'
    | _ => False) → R σ H a Nx
theorem Res.nox_ok {α : Type} {r : Res α} {a : α} {s : S} (h : r.nox = .ok a s) : r = .ok a s := by
  cases r <;> first | exact h | cases h
/-- a run within a block, none of whose exceptions leaves -/
theorem nox_run {α β : Type} {De : Wd → Hp → β → α → Prop} {F : Fg} {g : G} {c : G → S → Res α} {W : Wd} {s s1 : S} {σ : St} {H : Hp} {d : α} {Q : β → Hp → Prop} (r : Rel F W s σ H) (e : c g s = .ok d s1)
    (k : ∀ W1 H1 v, Ext W s σ H W1 s1 σ H1 → Rel F W1 s1 σ H1 → De W1 H1 v d → Q v H1) : tr F NoX De g c σ H Q := ⟨W, s, r, by rw [e]; exact k⟩
def un (s : S) (vs : List Nat) : S := { s with sg := unset s.sg vs }
theorem unset_length (l : List Sl) : ∀ vs : List Nat, (unset l vs).length = l.length
  | [] => rfl
  | v :: vs => by rw [unset, List.length_set, unset_length l vs]
theorem unset_get {l : List Sl} {j : Nat} {c : Sl} : ∀ {vs : List Nat}, (unset l vs)[j]? = some c → (j ∈ vs ∧ c = .no) ∨ (j ∉ vs ∧ l[j]? = some c)
  | [], h => .inr ⟨by simp, h⟩
  | v :: vs, h => by
    rw [unset] at h
    rcases set_get h with ⟨rfl, e, _⟩ | ⟨ne, h⟩
    · exact .inl ⟨by simp, e⟩
    · rcases unset_get h with ⟨m, e⟩ | ⟨m, e⟩
      · exact .inl ⟨by simp [m], e⟩
      · exact .inr ⟨by simp [m, ne], e⟩
theorem wipe_get {σ : St} {j : Nat} : ∀ {vs : List Nat}, j ∉ vs → (wipe σ vs)[j]? = σ[j]?
  | [], _ => rfl
  | v :: vs, h => by
    rw [List.mem_cons, not_or] at h
    rw [wipe, List.getElem?_set_ne fun z => h.1 z.symm, wipe_get h.2]
theorem wipe_congr {σ σ' : St} {vs : List Nat} (hl : σ'.length = σ.length) (h : ∀ j, j ∉ vs → σ'[j]? = σ[j]?) : wipe σ' vs = wipe σ vs := by
  apply List.ext_getElem?
  intro j
  by_cases m : j ∈ vs
  · have z : ∀ (τ : St) (us : List Nat), j ∈ us → (wipe τ us)[j]? = if j < τ.length then some none else none := by
      intro τ us
      induction us with
      | nil => intro h; cases h
      | cons v us ih =>
        intro h
        rw [wipe, List.getElem?_set, wipe_length]
        by_cases e : v = j
        · rw [if_pos e, e]
        · rw [if_neg e]
          exact ih (by simpa [Ne.symm e] using h)
    rw [z σ' vs m, z σ vs m, hl]
  · rw [wipe_get m, wipe_get m, h j m]
theorem wipe_wipe {σ : St} {vs : List Nat} : wipe (wipe σ vs) vs = wipe σ vs := wipe_congr (wipe_length σ vs) fun j h => wipe_get h
section
variable {F : Fg} {W W1 W0 : Wd} {s s1 s0 : S} {σ σ' σ0 : St} {H H1 H0 : Hp} {vs : List Nat} {a : Addr} {d : D}
theorem Rel.un (r : Rel F W s σ H) : Rel F W (un s vs) (wipe σ vs) H := by
  have own : ∀ (j : Nat) (e : D), (unset s.sg vs)[j]? = some (.own e) → j ∉ vs ∧ s.sg[j]? = some (.own e) := fun j e h => by
    rcases unset_get h with ⟨_, z⟩ | z
    · cases z
    · exact z
  refine ⟨by show (unset s.sg vs).length = _; rw [unset_length, wipe_length, r.len], fun j e h => ?_, fun j e h => ?_, fun j k e1 e2 c h1 h2 h3 h4 => ?_, r.hp⟩
  · rcases unset_get h with ⟨_, z⟩ | ⟨m, z⟩
    · cases z
    · rw [wipe_get m]; exact r.val j e z
  · obtain ⟨m, z⟩ := own j e h
    rw [wipe_get m]; exact r.own j e z
  · obtain ⟨m1, z1⟩ := own j e1 h1
    obtain ⟨m2, z2⟩ := own k e2 h2
    rw [wipe_get m1] at h3
    rw [wipe_get m2] at h4
    exact r.sep j k e1 e2 c z1 z2 h3 h4
theorem OwnAt.un {b : Addr} (h : OwnAt (un s vs) (wipe σ vs) b) : OwnAt s σ b := by
  obtain ⟨j, e, h1, h2⟩ := h
  rcases unset_get h1 with ⟨_, z⟩ | ⟨m, z⟩
  · cases z
  · rw [wipe_get m] at h2; exact ⟨j, e, z, h2⟩
theorem Ext.un (e : Ext W0 s0 σ0 H0 W s σ H) : Ext W0 s0 σ0 H0 W (un s vs) (wipe σ vs) H := ⟨e.ref, e.frz, e.keep, fun b hb h => e.own b hb h.un, e.trk⟩
theorem Rel.wide (r : Rel F W (Cy.un s vs) (wipe σ vs) H) : Rel F W (Cy.un s vs) σ H := by
  have at' : ∀ (j : Nat) (c : Sl), (unset s.sg vs)[j]? = some c → c ≠ .no → (wipe σ vs)[j]? = σ[j]? := fun j c h n => by
    rcases unset_get h with ⟨_, z⟩ | ⟨m, _⟩
    · exact absurd z n
    · exact wipe_get m
  refine ⟨by rw [← wipe_length σ vs]; exact r.len, fun j e h => ?_, fun j e h => ?_, fun j k e1 e2 c h1 h2 h3 h4 => ?_, r.hp⟩
  · rw [← at' j _ h (by simp)]; exact r.val j e h
  · rw [← at' j _ h (by simp)]; exact r.own j e h
  · exact r.sep j k e1 e2 c h1 h2 (by rw [at' j _ h1 (by simp)]; exact h3) (by rw [at' k _ h2 (by simp)]; exact h4)
theorem OwnAt.wide {b : Addr} (h : OwnAt (Cy.un s vs) σ b) : OwnAt (Cy.un s vs) (wipe σ vs) b := by
  obtain ⟨j, e, h1, h2⟩ := h
  rcases unset_get h1 with ⟨_, z⟩ | ⟨m, z⟩
  · cases z
  · exact ⟨j, e, h1, by rw [wipe_get m]; exact h2⟩
theorem Ext.wide (e : Ext W0 s0 σ0 H0 W (Cy.un s vs) (wipe σ vs) H) : Ext W0 s0 σ0 H0 W (Cy.un s vs) σ H := ⟨e.ref, e.frz, e.keep, fun b hb h => e.own b hb h.wide, e.trk⟩
theorem Acc.wide (A : Acc F W (Cy.un s vs) (wipe σ vs) H a d) : Acc F W (Cy.un s vs) σ H a d := ⟨A.ob, A.nf, A.nr, fun h => A.no h.wide⟩
theorem Acc.un (A : Acc F W s σ H a d) : Acc F W (un s vs) (wipe σ vs) H a d := ⟨A.ob, A.nf, A.nr, fun h => A.no h.un⟩
theorem turns_step {tg : Tg} {t : Tx} {f : D → G → S → Res D} {g : G} {x : D} {ds : List D} {acc d' : D} {s' : S} (h : turns tg t f vs g (x :: ds) acc s = .ok d' s') :
    ∃ s1 b s2, tg x (Cy.un s vs) = some s1 ∧ t g s1 = .ok b s2 ∧ (b = false ∧ turns tg t f vs g ds acc s2 = .ok d' s' ∨ b = true ∧ ∃ acc' s3, f acc g s2 = .ok acc' s3 ∧ turns tg t f vs g ds acc' s3 = .ok d' s') := by
  unfold turns at h
  cases q : tg x (Cy.un s vs) with
  | none => have q : tg x { s with sg := unset s.sg vs } = none := q; simp only [q, reduceCtorEq] at h
  | some s1 =>
    have q' : tg x { s with sg := unset s.sg vs } = some s1 := q
    simp only [q'] at h
    cases q2 : t g s1 with
    | bad => simp only [q2, Res.nox, Res.bind, reduceCtorEq] at h
    | exc y s2 => simp only [q2, Res.nox, Res.bind, reduceCtorEq] at h
    | ok b s2 =>
      refine ⟨s1, b, s2, rfl, q2, ?_⟩
      simp only [q2, Res.nox, Res.bind] at h
      cases b with
      | false => exact .inl ⟨rfl, h⟩
      | true =>
        simp only [if_true] at h
        cases q3 : f acc g s2 with
        | bad => simp only [q3, reduceCtorEq] at h
        | exc y s3 => simp only [q3, reduceCtorEq] at h
        | ok acc' s3 =>
          simp only [q3] at h
          exact .inr ⟨rfl, acc', s3, rfl, h⟩
theorem turns_run {R : BodyR} {J : It} {tg : Tg} {t : Tx} {f : D → G → S → Res D} {g : G} {gr : TG} {js : List Nat} {ds : List D} {dn : D} {sn : S} {Fin : Hp → Prop} (hg : TgOk F js tg gr) (hsub : ∀ j ∈ js, j ∈ vs) (hb : BodyOk F g f R)
    (it : ItOk F J W H ds) (h0 : H0 a = none) (e0 : Ext W0 s0 σ0 H0 W1 s σ H1) (st : Stab W H W1 H1) (r : Rel F W1 s σ H1) (A : Acc F W1 s σ H1 a d) (q : turns tg t f vs g ds d s = .ok dn sn)
    (fin : ∀ W' H', Stab W H W' H' → Ext W0 s0 σ0 H0 W' (Cy.un sn vs) (wipe σ vs) H' → Rel F W' (Cy.un sn vs) (wipe σ vs) H' → Acc F W' (Cy.un sn vs) (wipe σ vs) H' a dn → Fin H') :
    ∃ Wm : Nat → Nat → Hp → Prop, (∃ m, Wm 0 m H1) ∧ ∀ i m H, Wm i m H →
      (J.stop i H ∧ Fin H) ∨ (J.go i H ∧ ∃ Nx : Hp → Prop, (∀ H', Nx H' → ∃ m', m' < m ∧ Wm (i + 1) m' H') ∧ ∀ x H', J.yld i H x H' → gr x (wipe σ vs) H' fun σ2 H2 => wipe σ2 vs = wipe σ vs ∧ ttx F NoX g t σ2 H2 fun b H3 =>
        if b = true then R σ2 H3 a Nx else Nx H3) := by
  refine ⟨fun i m H2 => m = ds.length - i ∧ i ≤ ds.length ∧ ∃ W2 s2 d2, Stab W H W2 H2 ∧ Ext W0 s0 σ0 H0 W2 (Cy.un s2 vs) (wipe σ vs) H2 ∧ Rel F W2 (Cy.un s2 vs) (wipe σ vs) H2 ∧ Acc F W2 (Cy.un s2 vs) (wipe σ vs) H2 a d2 ∧ turns tg t f vs g (ds.drop i) d2 s2 = .ok dn sn,
    ⟨ds.length, by simp, by simp, W1, s, d, st, e0.un, r.un, A.un, q⟩, ?_⟩
  rintro i m H2 ⟨rfl, hi, W2, s2, d2, st2, e2, r2, A2, q2⟩
  obtain ⟨i1, i2⟩ := it W2 (Cy.un s2 vs) (wipe σ vs) H2 st2 r2 i
  by_cases z : i = ds.length
  · rw [z, List.drop_length] at q2
    cases q2
    exact .inl ⟨i2 z, fin W2 H2 st2 e2 r2 A2⟩
  · have lt : i < ds.length := Nat.lt_of_le_of_ne hi z
    obtain ⟨i1, i3⟩ := i1 ds[i] (List.getElem?_eq_getElem lt)
    refine .inr ⟨i1, fun H' => ∃ m', m' < ds.length - i ∧ _, fun H' h => h, fun x H' hy => ?_⟩
    obtain ⟨e3, r3, d3⟩ := i3 x H' hy
    rw [List.drop_eq_getElem_cons lt] at q2
    obtain ⟨s3, b, s4, g1, g2, g3⟩ := turns_step q2
    refine hg W2 (Cy.un s2 vs) s3 (wipe σ vs) H' x _ _ r3 d3 g1 fun σ3 r4 e4 f4 => ?_
    have wp : wipe σ3 vs = wipe σ vs := by
      rw [← wipe_wipe (σ := σ)]
      exact wipe_congr f4.1 fun j hj => f4.2 j fun z => hj (hsub j z)
    refine ⟨wp, nox_run r4 g2 fun W5 H5 v e5 r5 hv => ?_⟩
    subst hv
    have A5 := ((A2.ext r2 e3).ext r3 e4).ext r4 e5
    have E5 := ((e2.trans e3).trans e4).trans e5
    have S5 : Stab W H W5 H5 := ((st2.trans (e3.stab r2)).trans (e4.stab r3)).trans (e5.stab r4)
    have turn : ∀ {s6 : S} {W6 : Wd} {H6 : Hp} {d6 : D}, Stab W H W6 H6 → Ext W0 s0 σ0 H0 W6 s6 σ3 H6 → Rel F W6 s6 σ3 H6 → Acc F W6 s6 σ3 H6 a d6 → turns tg t f vs g (ds.drop (i + 1)) d6 s6 = .ok dn sn →
        ∃ m', m' < ds.length - i ∧ m' = ds.length - (i + 1) ∧ i + 1 ≤ ds.length ∧ ∃ W2 s2 d2, Stab W H W2 H6 ∧ Ext W0 s0 σ0 H0 W2 (Cy.un s2 vs) (wipe σ vs) H6 ∧ Rel F W2 (Cy.un s2 vs) (wipe σ vs) H6 ∧ Acc F W2 (Cy.un s2 vs) (wipe σ vs) H6 a d2 ∧ turns tg t f vs g (ds.drop (i + 1)) d2 s2 = .ok dn sn :=
      fun {s6 W6 H6 d6} st e r A q => ⟨_, by omega, rfl, lt, W6, s6, d6, st, wp ▸ e.un, wp ▸ r.un, wp ▸ A.un, q⟩
    rcases g3 with ⟨rfl, g3⟩ | ⟨rfl, acc', s6, g3, g4⟩
    · exact turn S5 E5 r5 A5 g3
    · refine hb W0 s0 σ0 H0 W5 s4 σ3 H5 a d2 _ h0 E5 r5 A5 ?_
      rw [g3]
      exact fun W6 H6 st6 e6 r6 A6 => turn (S5.trans st6) e6 r6 A6 g4
/-! bodies -/
theorem body_lst {g : G} {e : Ex} {R : BodyR} (hR : ∀ σ H a Nx, (tev F NoX g e σ H fun y H4 => ∃ acc, H4 a = some (.lst acc) ∧ acc.length < sizeLine ∧ Nx (upd H4 a (.lst (acc ++ [y])))) → R σ H a Nx) : BodyOk F g (gathL e) R := by
  intro W0 s0 σ0 H0 W s σ H a d Nx h0 e0 r A p
  refine hR σ H a Nx ?_
  unfold gathL at p
  cases q : e g s with
  | bad => simp only [q, Res.bind, Res.nox] at p
  | exc x s1 => simp only [q, Res.bind, Res.nox] at p
  | ok x s1 =>
    simp only [q, Res.bind] at p
    cases d with
    | lst l =>
      by_cases hl : l.length < lim
      · simp only [if_pos hl, Res.nox] at p
        refine nox_run r q fun W1 H1 v e1 r1 d1 => ?_
        have A1 := A.ext r e1
        obtain ⟨vs, ha, dl⟩ := A1.ob
        refine ⟨vs, ha, by rw [dl.length]; exact hl, ?_⟩
        refine p W1 _ ((e1.stab r).trans A1.stab_touch) ((e0.trans e1).touch h0) (A1.rel_touch r1) ⟨⟨_, upd_same, (dl.stab A1.stab_touch).append (.cons (d1.stab A1.stab_touch) .nil)⟩, A1.nf, A1.nr, A1.no⟩
      · simp only [if_neg hl, Res.nox] at p
    | _ => simp only [Res.nox] at p
theorem DenK.put {v : V} {x : D} (h : Den F W H v x) (k : K) : ∀ {vs : List (Key × V)} {l : List (K × D)}, DenK F W H vs l → DenK F W H (putK vs (kk k) v) (dput l k x) := by
  intro vs l d
  have any : ∀ {vs : List (Key × V)} {l : List (K × D)}, DenK F W H vs l → (vs.any fun p => decide (p.1 = kk k)) = (l.any fun p => decide (p.1 = k)) := by
    intro vs l d
    induction l generalizing vs with
    | nil => cases d; rfl
    | cons p l ih =>
      cases d with
      | @cons j _ vs _ ds _ d =>
        have e : decide (kk j = kk k) = decide (j = k) := decide_eq_decide.mpr ⟨kk_inj, fun z => congrArg kk z⟩
        rw [List.any_cons, List.any_cons, e, ih d]
  have mp : ∀ {vs : List (Key × V)} {l : List (K × D)}, DenK F W H vs l → DenK F W H (vs.map fun p => if p.1 = kk k then (p.1, v) else p) (l.map fun p => if p.1 = k then (p.1, x) else p) := by
    intro vs l d
    induction l generalizing vs with
    | nil => cases d; exact .nil
    | cons p l ih =>
      cases d with
      | @cons j _ vs _ ds dj d =>
        rw [List.map_cons, List.map_cons]
        by_cases z : j = k
        · rw [if_pos z, if_pos (congrArg kk z)]; exact .cons h (ih d)
        · rw [if_neg z, if_neg fun y => z (kk_inj y)]; exact .cons dj (ih d)
  have ap : ∀ {vs : List (Key × V)} {l : List (K × D)}, DenK F W H vs l → DenK F W H (vs ++ [(kk k, v)]) (l ++ [(k, x)]) := by
    intro vs l d
    induction l generalizing vs with
    | nil => cases d; exact .cons h .nil
    | cons p l ih => cases d with
      | cons dj d => exact .cons dj (ih d)
  unfold putK dput
  rw [any d]
  split
  · exact mp d
  · exact ap d
theorem body_dic {g : G} {ek ev : Ex} {R : BodyR} (hR : ∀ σ H a Nx, (tev F NoX g ek σ H fun y H4 => tev F NoX g ev σ H4 fun z H5 => ∃ kvs k, y = kV k ∧ H5 a = some (.dK kvs) ∧ kvs.length < sizeLine ∧ Nx (upd H5 a (.dK (putK kvs k z)))) → R σ H a Nx) : BodyOk F g (gathD ek ev) R := by
  intro W0 s0 σ0 H0 W s σ H a d Nx h0 e0 r A p
  refine hR σ H a Nx ?_
  unfold gathD at p
  cases q : ek g s with
  | bad => simp only [q, Res.bind, Res.nox] at p
  | exc x s1 => simp only [q, Res.bind, Res.nox] at p
  | ok x s1 =>
    simp only [q, Res.bind] at p
    cases q2 : ev g s1 with
    | bad => simp only [q2, Res.nox] at p
    | exc x s1 => simp only [q2, Res.nox] at p
    | ok y s2 =>
      simp only [q2] at p
      cases d with
      | dic l =>
        cases qk : key? x with
        | none => simp only [qk, Res.nox] at p
        | some k =>
          simp only [qk] at p
          by_cases hl : l.length < lim
          · simp only [if_pos hl, Res.nox] at p
            refine nox_run r q fun W1 H1 v e1 r1 d1 => nox_run r1 q2 fun W2 H2 u e2 r2 d2 => ?_
            have A2 := (A.ext r e1).ext r1 e2
            obtain ⟨vs, ha, dl⟩ := A2.ob
            refine ⟨vs, kk k, DenC.key (.inl d1) qk, ha, by rw [dl.length]; exact hl, ?_⟩
            have dl' : DenK F W2 (upd H2 a (.dK (putK vs (kk k) u))) vs l := dl.stab A2.stab_touch
            exact p W2 _ (((e1.stab r).trans (e2.stab r1)).trans A2.stab_touch) (((e0.trans e1).trans e2).touch h0) (A2.rel_touch r2) ⟨⟨_, upd_same, DenK.put (d2.stab A2.stab_touch) k dl'⟩, A2.nf, A2.nr, A2.no⟩
          · simp only [if_neg hl, Res.nox] at p
      | _ => simp only [Res.nox] at p
theorem body_in {g : G} {it : Ix} {tg : Tg} {t : Tx} {f : D → G → S → Res D} {js : List Nat} {gr : TG} {R R1 : BodyR} (hg : TgOk F js tg gr) (hsub : ∀ j ∈ js, j ∈ vs) (hb : BodyOk F g f R1)
    (hR : ∀ σ H a Nx, (tix F NoX g it σ H fun J1 H4 => ∃ Wm : Nat → Nat → Hp → Prop, (∃ m, Wm 0 m H4) ∧ ∀ j k H, Wm j k H →
      (J1.stop j H ∧ Nx H) ∨ (J1.go j H ∧ ∃ Nx1 : Hp → Prop, (∀ H', Nx1 H' → ∃ k', k' < k ∧ Wm (j + 1) k' H') ∧ ∀ x H', J1.yld j H x H' → gr x (wipe σ vs) H' fun σ3 H5 => wipe σ3 vs = wipe σ vs ∧ ttx F NoX g t σ3 H5 fun b H6 =>
        if b = true then R1 σ3 H6 a Nx1 else Nx1 H6)) → R σ H a Nx) : BodyOk F g (gathIn it tg t f vs) R := by
  intro W0 s0 σ0 H0 W s σ H a d Nx h0 e0 r A p
  refine hR σ H a Nx ?_
  unfold gathIn at p
  cases q : it g s with
  | bad => simp only [q, Res.bind, Res.nox] at p
  | exc x s1 => simp only [q, Res.bind, Res.nox] at p
  | ok l s1 =>
    simp only [q, Res.bind] at p
    refine ⟨W, s, r, ?_⟩
    rw [q]
    intro W1 H1 J e1 r1 io
    cases q2 : turns tg t f vs g l d s1 with
    | bad => simp only [q2, Res.nox] at p
    | exc x s2 => simp only [q2, Res.nox] at p
    | ok dn sn =>
      simp only [q2, Res.nox] at p
      exact turns_run hg hsub hb io h0 (e0.trans e1) Stab.refl r1 (A.ext r e1) q2 fun W' H' st2 e2 r2 A2 => p W' H' ((e1.stab r).trans st2) e2.wide r2.wide A2.wide
/-! the whole -/
theorem back_length (l m : List Sl) : ∀ vs : List Nat, (back l m vs).length = m.length
  | [] => rfl
  | v :: vs => by rw [back, List.length_set, back_length l m vs]
theorem back_get {l m : List Sl} {j : Nat} {c : Sl} : ∀ {vs : List Nat}, (back l m vs)[j]? = some c → (j ∈ vs ∧ c = l.getD j .no) ∨ (j ∉ vs ∧ m[j]? = some c)
  | [], h => .inr ⟨by simp, h⟩
  | v :: vs, h => by
    rw [back] at h
    rcases set_get h with ⟨rfl, e, _⟩ | ⟨ne, h⟩
    · exact .inl ⟨by simp, e⟩
    · rcases back_get h with ⟨m, e⟩ | ⟨m, e⟩
      · exact .inl ⟨by simp [m], e⟩
      · exact .inr ⟨by simp [m, ne], e⟩
def bk (s1 s2 : S) (vs : List Nat) : S := { s2 with sg := back s1.sg s2.sg vs }
theorem getD_some {l : List Sl} {j : Nat} {c : Sl} (h : l.getD j .no = c) (hc : c ≠ .no) : l[j]? = some c := by
  rw [List.getD_eq_getElem?_getD] at h
  cases q : l[j]? with
  | none => rw [q] at h; exact absurd h.symm hc
  | some x => rw [q] at h; exact congrArg some h
theorem no_own {l : List Sl} (h : (vs.any fun v => isOwn (l.getD v .no)) = false) {j : Nat} (hj : j ∈ vs) {d : D} : l.getD j .no ≠ .own d := fun e => by
  rw [List.any_eq_false] at h
  exact h j hj (by rw [e]; rfl)
section
variable {s2 : S} {W2 : Wd} {H2 : Hp}
theorem back_own (no : (vs.any fun v => isOwn (s1.sg.getD v .no)) = false) {j : Nat} {e : D} (h : (bk s1 s2 vs).sg[j]? = some (.own e)) : j ∉ vs ∧ (Cy.un s2 vs).sg[j]? = some (.own e) := by
  rcases back_get h with ⟨m, z⟩ | ⟨m, z⟩
  · exact absurd z.symm (no_own no m)
  · refine ⟨m, ?_⟩
    show (unset s2.sg vs)[j]? = _
    have uk : ∀ (us : List Nat), j ∉ us → (unset s2.sg us)[j]? = s2.sg[j]? := by
      intro us
      induction us with
      | nil => intro _; rfl
      | cons v us ih =>
        intro h
        rw [List.mem_cons, not_or] at h
        rw [unset, List.getElem?_set_ne fun z => h.1 z.symm, ih h.2]
    rw [uk vs m, z]
theorem Rel.back (no : (vs.any fun v => isOwn (s1.sg.getD v .no)) = false) (r1 : Rel F W1 s1 σ H1) (st : Stab W1 H1 W2 H2) (r2 : Rel F W2 (Cy.un s2 vs) (wipe σ vs) H2) : Rel F W2 (bk s1 s2 vs) σ H2 := by
  refine ⟨?_, fun j e h => ?_, fun j e h => ?_, fun j k e1 e2 c h1 h2 h3 h4 => ?_, r2.hp⟩
  · show (Cy.back s1.sg s2.sg vs).length = _
    have := r2.len
    rw [wipe_length] at this
    rw [back_length, ← this]
    exact (unset_length s2.sg vs).symm
  · rcases back_get h with ⟨m, z⟩ | ⟨m, z⟩
    · obtain ⟨v, q1, q2⟩ := r1.val j e (getD_some z.symm (by simp))
      exact ⟨v, q1, q2.stab st⟩
    · have uk : ∀ (us : List Nat), j ∉ us → (unset s2.sg us)[j]? = s2.sg[j]? := by
        intro us
        induction us with
        | nil => intro _; rfl
        | cons v us ih =>
          intro h
          rw [List.mem_cons, not_or] at h
          rw [unset, List.getElem?_set_ne fun z => h.1 z.symm, ih h.2]
      obtain ⟨v, q1, q2⟩ := r2.val j e (by show (unset s2.sg vs)[j]? = _; rw [uk vs m, z])
      rw [wipe_get m] at q1
      exact ⟨v, q1, q2⟩
  · obtain ⟨m, z⟩ := back_own no h
    have := r2.own j e z
    rw [wipe_get m] at this
    exact this
  · obtain ⟨m1, z1⟩ := back_own no h1
    obtain ⟨m2, z2⟩ := back_own no h2
    exact r2.sep j k e1 e2 c z1 z2 (by rw [wipe_get m1]; exact h3) (by rw [wipe_get m2]; exact h4)
theorem OwnAt.back (no : (vs.any fun v => isOwn (s1.sg.getD v .no)) = false) {b : Addr} (h : OwnAt (bk s1 s2 vs) σ b) : OwnAt (Cy.un s2 vs) (wipe σ vs) b := by
  obtain ⟨j, e, h1, h2⟩ := h
  obtain ⟨m, z⟩ := back_own no h1
  exact ⟨j, e, z, by rw [wipe_get m]; exact h2⟩
theorem Ext.back (no : (vs.any fun v => isOwn (s1.sg.getD v .no)) = false) (e : Ext W0 s0 σ0 H0 W2 (Cy.un s2 vs) (wipe σ vs) H2) : Ext W0 s0 σ0 H0 W2 (bk s1 s2 vs) σ H2 := ⟨e.ref, e.frz, e.keep, fun b hb h => e.own b hb (h.back no), e.trk⟩
theorem Acc.back (no : (vs.any fun v => isOwn (s1.sg.getD v .no)) = false) (A : Acc F W2 (Cy.un s2 vs) (wipe σ vs) H2 a d) : Acc F W2 (bk s1 s2 vs) σ H2 a d := ⟨A.ob, A.nf, A.nr, fun h => A.no (h.back no)⟩
end
/-- an object that a comprehension begins with -/
def emptyOb : D → Option HO
  | .lst [] => some (.lst [])
  | .dic [] => some (.dK [])
  | _ => none
theorem emptyOb_own {p : Addr} {d0 : D} {o : HO} (h : emptyOb d0 = some o) : OwnOb F W (upd H p o) p d0 := by
  unfold emptyOb at h
  split at h
  · cases h; exact ⟨[], upd_same, .nil⟩
  · cases h; exact ⟨[], upd_same, .nil⟩
  · cases h
theorem comp_run {g : G} {Wx : WX} {it : Ix} {tg : Tg} {t : Tx} {f : D → G → S → Res D} {js : List Nat} {gr : TG} {R : BodyR} {d0 : D} {o : HO} {Q : VK} (ho : emptyOb d0 = some o) (hg : TgOk F js tg gr) (hsub : ∀ j ∈ js, j ∈ vs) (hb : BodyOk F g f R)
    (h : tfr F Wx g (compG d0 it tg t f vs) σ H Q) : tix F Wx g it σ H fun J H1 => ∀ a, H1 a = none → ∃ Wm : Nat → Nat → Hp → Prop, (∃ m, Wm 0 m (upd H1 a o)) ∧ ∀ i m H, Wm i m H →
      (J.stop i H ∧ Q (.ref a) H) ∨ (J.go i H ∧ ∃ Nx : Hp → Prop, (∀ H', Nx H' → ∃ m', m' < m ∧ Wm (i + 1) m' H') ∧ ∀ x H', J.yld i H x H' → gr x (wipe σ vs) H' fun σ2 H2 => wipe σ2 vs = wipe σ vs ∧ ttx F NoX g t σ2 H2 fun b H3 =>
        if b = true then R σ2 H3 a Nx else Nx H3) := by
  obtain ⟨W, s, r, p⟩ := h
  refine ⟨W, s, r, ?_⟩
  have p : PostFr F Wx W s σ H Q ((it g s).bind fun l s1 => if vs.any (fun v => isOwn (s1.sg.getD v .no)) then .bad else (turns tg t f vs g l d0 s1).nox.bind fun d s2 => .ok d (bk s1 s2 vs)) := p
  cases q : it g s with
  | bad => rw [q] at p; exact p
  | exc x s1 => rw [q] at p; exact p
  | ok l s1 =>
    rw [q] at p
    intro W1 H1 J e1 r1 io a ha
    have p : PostFr F Wx W s σ H Q (if vs.any (fun v => isOwn (s1.sg.getD v .no)) then .bad else (turns tg t f vs g l d0 s1).nox.bind fun d s2 => .ok d (bk s1 s2 vs)) := p
    cases no : vs.any (fun v => isOwn (s1.sg.getD v .no)) with
    | true => rw [no] at p; exact p.elim
    | false =>
      rw [no, if_neg Bool.false_ne_true] at p
      cases q2 : turns tg t f vs g l d0 s1 with
      | bad => simp only [q2, Res.nox, Res.bind] at p; exact p.elim
      | exc x s2 => simp only [q2, Res.nox, Res.bind] at p; exact p.elim
      | ok dn sn =>
        simp only [q2, Res.nox, Res.bind] at p
        have st1 : Stab W1 H1 W1 (upd H1 a o) := r1.stab_new ha
        have A1 : Acc F W1 s1 σ (upd H1 a o) a d0 := Acc.new r1 ha (emptyOb_own ho)
        refine turns_run hg hsub hb io (e1.trk a ha) (e1.trans (Ext.new ha)) st1 (r1.new ha) A1 q2 fun W' H' st2 e2 r2 A2 => ?_
        exact p W' H' a (e1.trk a ha) (e2.back no) (r1.back no st2 r2) (A2.back no)
end
/-! the forms -/
section
variable {X : Cx} {Wx : WX} {g : G} {elt tge iter : Expr} {ifs : List Expr} {scope : Scope} {own : List (Str × Nat)} {pos : Pos} {it : Ix} {tg : Tg} {gr : TG} {js : List Nat} {t : Tx} {c : Ex}
theorem stt_nil : PTs X [] (ttx X.K Wx g tYes) := ⟨fun pins s σ H Q I ⟨W, s1, r, p⟩ => pts_nil.run pins s σ H Q I (p W H true Ext.refl r rfl)⟩
theorem stt_one {e : Expr} (h : PT X e (ttx X.K Wx g t)) : PTs X [e] (ttx X.K Wx g t) := pts_one h
theorem sf_comp (cc : Cc X Wx) (hi : PI X tge iter (tix X.K Wx g it)) (ok : BlkOk X.N X.env.scope scope own) (gk : TgOk X.K js tg gr) (hsub : ∀ j ∈ js, j ∈ own.map (·.2))
    (hg : ∀ (s : Shared) (H : Hp) (C : Addr) (cl : List (Str × Addr)) (fp : List Addr), PG (X.blk s H scope (compEnvC scope cl C X.env) fp) tge gr)
    (ht : ∀ (s : Shared) (H : Hp) (C : Addr) (cl : List (Str × Addr)) (fp : List Addr), PTs (X.blk s H scope (compEnvC scope cl C X.env) fp) ifs (ttx X.K NoX g t))
    (he : ∀ (s : Shared) (H : Hp) (C : Addr) (cl : List (Str × Addr)) (fp : List Addr), PE (X.blk s H scope (compEnvC scope cl C X.env) fp) elt (tev X.K NoX g c)) (hs : isSet iter = false) :
    PE X (.ListComp elt [⟨tge, iter, ifs, 0⟩] scope pos) (tfr X.K Wx g (comp it tg t c (own.map (·.2)))) :=
  (pe_lc cc.calm cc.nd hi ok hg ht he (folded_of hs)).mono fun σ H Q h => comp_run (o := .lst []) rfl gk hsub (body_lst fun _ _ _ _ h => h) h
end
end Cy

set_option Elab.async false
set_option linter.all false
set_option maxRecDepth 100000
/-! Cy over the hand layer: comprehensions' forms, par, changes in place. -/
namespace Cy
open L2 PySem PySem.Spec PyProof.Rows
section
variable {X : Cx} {Wx : WX} {g : G} {elt kx tge iter tge1 iter1 : Expr} {ifs ifs1 : List Expr} {scope : Scope} {own : List (Str × Nat)} {pos spos py : Pos} {it jt : Ix} {tg ug : Tg} {gr gr1 : TG} {js ks ws : List Nat} {t u : Tx} {c k : Ex} {i : Nat} {y : Str}
/-- in every block of this scope -/
abbrev Blks (X : Cx) (scope : Scope) (P : Cx → Prop) : Prop := ∀ (s : Shared) (H : Hp) (C : Addr) (cl : List (Str × Addr)) (fp : List Addr), P (X.blk s H scope (compEnvC scope cl C X.env) fp)
theorem sf_comp2 (cc : Cc X Wx) (hi : PI X tge iter (tix X.K Wx g it)) (ok : BlkOk X.N X.env.scope scope own) (hv : ∀ i ∈ ws, i ∈ own.map (·.2)) (gk : TgOk X.K js tg gr) (hsub : ∀ j ∈ js, j ∈ own.map (·.2)) (gk1 : TgOk X.K ks ug gr1) (hsub1 : ∀ j ∈ ks, j ∈ ws)
    (hg : Blks X scope fun Y => PG Y tge gr) (ht : Blks X scope fun Y => PTs Y ifs (ttx X.K NoX g t)) (hi1 : Blks X scope fun Y => PI Y tge1 iter1 (tix X.K NoX g jt)) (hg1 : Blks X scope fun Y => PG Y tge1 gr1) (ht1 : Blks X scope fun Y => PTs Y ifs1 (ttx X.K NoX g u))
    (he : Blks X scope fun Y => PE Y elt (tev X.K NoX g c)) (hs : isSet iter = false) (hs1 : isSet iter1 = false) :
    PE X (.ListComp elt [⟨tge, iter, ifs, 0⟩, ⟨tge1, iter1, ifs1, 0⟩] scope pos) (tfr X.K Wx g (comp2 it tg t jt ug u c (own.map (·.2)) ws)) :=
  (pe_lc2 cc.calm cc.nd hi ok hv hg ht hi1 hg1 ht1 he (folded_of hs) (fun _ => folded_of hs1)).mono fun σ H Q h =>
    comp_run (o := .lst []) (R := fun σ2 H3 D Nx => tix X.K NoX g jt σ2 H3 fun J1 H4 => ∃ W1 : Nat → Nat → Hp → Prop, (∃ m, W1 0 m H4) ∧ ∀ j k H, W1 j k H →
      (J1.stop j H ∧ Nx H) ∨ (J1.go j H ∧ ∃ Nx1 : Hp → Prop, (∀ H', Nx1 H' → ∃ k', k' < k ∧ W1 (j + 1) k' H') ∧ ∀ x H', J1.yld j H x H' → gr1 x (wipe σ2 ws) H' fun σ3 H5 => wipe σ3 ws = wipe σ2 ws ∧ ttx X.K NoX g u σ3 H5 fun b H6 =>
        if b = true then tev X.K NoX g c σ3 H6 fun y H7 => ∃ acc, H7 D = some (.lst acc) ∧ acc.length < sizeLine ∧ Nx1 (upd H7 D (.lst (acc ++ [y]))) else Nx1 H6)) rfl gk hsub (body_in gk1 hsub1 (body_lst fun _ _ _ _ h => h) fun _ _ _ _ h => h) h
theorem sf_compD (cc : Cc X Wx) (hi : PI X tge iter (tix X.K Wx g it)) (ok : BlkOk X.N X.env.scope scope own) (gk : TgOk X.K js tg gr) (hsub : ∀ j ∈ js, j ∈ own.map (·.2))
    (hg : Blks X scope fun Y => PG Y tge gr) (ht : Blks X scope fun Y => PTs Y ifs (ttx X.K NoX g t)) (hk : Blks X scope fun Y => PE Y kx (tev X.K NoX g k)) (he : Blks X scope fun Y => PE Y elt (tev X.K NoX g c)) (hs : isSet iter = false) :
    PE X (.DictComp kx elt [⟨tge, iter, ifs, 0⟩] scope pos) (tfr X.K Wx g (compD it tg t k c (own.map (·.2)))) :=
  (pe_dc cc.calm cc.nd hi ok hg ht hk he (folded_of hs)).mono fun σ H Q h => comp_run (o := .dK []) rfl gk hsub (body_dic fun _ _ _ _ h => h) h

/-! name = a comprehension on one line -/
/-- a comprehension that a name takes -/
def PSet (X : Cx) (y : Str) (py : Pos) (e : Expr) (spos : Pos) (i : Nat) (t : TE) : Prop := PS X (.Assign [.Name y py] e spos) (tAsg t (L2.gName i))
theorem ss_takeC {e : Expr} {c : Ex} (h : PSet X y py e spos i (tfr X.K Wx g c)) : PS X (.Assign [.Name y py] e spos) (tst X.K Wx g (take i c)) := PS.mono h fun D σ H q => take_run q
theorem ss_asgC {e : Expr} {c : Ex} (h : PSet X y py e spos i (tfr X.K Wx g c)) : PS X (.Assign [.Name y py] e spos) (tst X.K Wx g (asg (Cy.gName i) c)) := PS.mono h fun D σ H q => tfr_of (asg_run sg_name q)
/-- .. whose value is not used up: on another line, or no local's -/
theorem ps_plain {e : Expr} {t : TE} (h : PE X e t) (hp : PG X (.Name y py) (L2.gName i)) (hs : swapsWith e (some (.Name y py)) spos.line X.env = pure false) (hs2 : swappedStores [.Name y py] e X.env = pure none) : PSet X y py e spos i t := by
  refine ps_asg h hp ?_ ?_ ?_
  · exact hs
  · exact hs2
  · exact assignEach_of rfl
theorem ps_setC (cc : Cc X Wx) (hy : X.N[i]? = some y) (hyl : X.env.scope.names.lookup y = some .local) (hsw : swapsWith (.ListComp elt [⟨tge, iter, ifs, 0⟩] scope pos) (some (.Name y py)) spos.line X.env = pure true)
    (hi : PI X tge iter (tix X.K Wx g it)) (ok : BlkOk X.N X.env.scope scope own) (gk : TgOk X.K js tg gr) (hsub : ∀ j ∈ js, j ∈ own.map (·.2))
    (hg : Blks X scope fun Y => PG Y tge gr) (ht : Blks X scope fun Y => PTs Y ifs (ttx X.K NoX g t)) (he : Blks X scope fun Y => PE Y elt (tev X.K NoX g c)) (hs : isSet iter = false) :
    PSet X y py (.ListComp elt [⟨tge, iter, ifs, 0⟩] scope pos) spos i (tfr X.K Wx g (comp it tg t c (own.map (·.2)))) :=
  PS.mono (ps_setLc cc.calm cc.nd hy hyl hsw hi ok hg ht he (folded_of hs)) fun D σ H h => comp_run (o := .lst []) rfl gk hsub (body_lst fun _ _ _ _ h => h) h
theorem ps_setC2 (cc : Cc X Wx) (hy : X.N[i]? = some y) (hyl : X.env.scope.names.lookup y = some .local) (hsw : swapsWith (.ListComp elt [⟨tge, iter, ifs, 0⟩, ⟨tge1, iter1, ifs1, 0⟩] scope pos) (some (.Name y py)) spos.line X.env = pure true)
    (hi : PI X tge iter (tix X.K Wx g it)) (ok : BlkOk X.N X.env.scope scope own) (hv : ∀ i ∈ ws, i ∈ own.map (·.2)) (gk : TgOk X.K js tg gr) (hsub : ∀ j ∈ js, j ∈ own.map (·.2)) (gk1 : TgOk X.K ks ug gr1) (hsub1 : ∀ j ∈ ks, j ∈ ws)
    (hg : Blks X scope fun Y => PG Y tge gr) (ht : Blks X scope fun Y => PTs Y ifs (ttx X.K NoX g t)) (hi1 : Blks X scope fun Y => PI Y tge1 iter1 (tix X.K NoX g jt)) (hg1 : Blks X scope fun Y => PG Y tge1 gr1) (ht1 : Blks X scope fun Y => PTs Y ifs1 (ttx X.K NoX g u))
    (he : Blks X scope fun Y => PE Y elt (tev X.K NoX g c)) (hs : isSet iter = false) (hs1 : isSet iter1 = false) :
    PSet X y py (.ListComp elt [⟨tge, iter, ifs, 0⟩, ⟨tge1, iter1, ifs1, 0⟩] scope pos) spos i (tfr X.K Wx g (comp2 it tg t jt ug u c (own.map (·.2)) ws)) :=
  PS.mono (ps_setLc2 cc.calm cc.nd hy hyl hsw hi ok hv hg ht hi1 hg1 ht1 he (folded_of hs) (fun _ => folded_of hs1)) fun D σ H h =>
    comp_run (o := .lst []) (R := fun σ2 H3 D Nx => tix X.K NoX g jt σ2 H3 fun J1 H4 => ∃ W1 : Nat → Nat → Hp → Prop, (∃ m, W1 0 m H4) ∧ ∀ j k H, W1 j k H →
      (J1.stop j H ∧ Nx H) ∨ (J1.go j H ∧ ∃ Nx1 : Hp → Prop, (∀ H', Nx1 H' → ∃ k', k' < k ∧ W1 (j + 1) k' H') ∧ ∀ x H', J1.yld j H x H' → gr1 x (wipe σ2 ws) H' fun σ3 H5 => wipe σ3 ws = wipe σ2 ws ∧ ttx X.K NoX g u σ3 H5 fun b H6 =>
        if b = true then tev X.K NoX g c σ3 H6 fun y H7 => ∃ acc, H7 D = some (.lst acc) ∧ acc.length < sizeLine ∧ Nx1 (upd H7 D (.lst (acc ++ [y]))) else Nx1 H6)) rfl gk hsub (body_in gk1 hsub1 (body_lst fun _ _ _ _ h => h) fun _ _ _ _ h => h) h
theorem ps_setCD (cc : Cc X Wx) (hy : X.N[i]? = some y) (hyl : X.env.scope.names.lookup y = some .local) (hsw : swapsWith (.DictComp kx elt [⟨tge, iter, ifs, 0⟩] scope pos) (some (.Name y py)) spos.line X.env = pure true)
    (hi : PI X tge iter (tix X.K Wx g it)) (ok : BlkOk X.N X.env.scope scope own) (gk : TgOk X.K js tg gr) (hsub : ∀ j ∈ js, j ∈ own.map (·.2))
    (hg : Blks X scope fun Y => PG Y tge gr) (ht : Blks X scope fun Y => PTs Y ifs (ttx X.K NoX g t)) (hk : Blks X scope fun Y => PE Y kx (tev X.K NoX g k)) (he : Blks X scope fun Y => PE Y elt (tev X.K NoX g c)) (hs : isSet iter = false) :
    PSet X y py (.DictComp kx elt [⟨tge, iter, ifs, 0⟩] scope pos) spos i (tfr X.K Wx g (compD it tg t k c (own.map (·.2)))) := by
  refine ⟨fun pins s σ H D I h => ?_⟩
  rw [exec_Assign_Name_used _ _ _ _ hsw]
  refine wpAny_bind (wpAny_standAt (wpAny_bind ?_))
  show wpAny _ X.A (do let _ ← comprehension (.DictComp kx elt [⟨tge, iter, ifs, 0⟩] scope pos) scope X.env (firstIterPos [⟨tge, iter, ifs, 0⟩] pos) newDict false (eval iter X.env) (some (assign (.Name y py) X.env))) _ _ s
  have h : tDc (tix X.K Wx g it) gr (ttx X.K NoX g t) (tev X.K NoX g k) (tev X.K NoX g c) (own.map (·.2)) σ H (fun x H1 => L2.gName i x σ H1 D.nx) := comp_run (o := .dK []) rfl gk hsub (body_dic fun _ _ _ _ h => h) h
  refine wpAny_bind (thn (dc_core (Qf := fun _ s' => SP X pins D .next s') cc.calm cc.nd I hi ok hg ht hk he (folded_of hs) h fun L C s' m H' I' q hn f => ?_) fun _ s' hq => wpAny_pure (wpAny_pure hq))
  show wpAny _ _ (assign (.Name y py) X.env (.ref L)) _ _ _
  refine wpAny_assign_Name (store_ok2 (v := V.ref L) I' cc.nd hy (.inl hyl) rfl (fun s2 I2 ⟨a, sb, ha⟩ => ?_) (.inr hyl))
  obtain ⟨f0, f1, f2, f3, f4, f5⟩ := f
  have haC : C ≠ a := ha.elim (fun z => z ▸ f1) fun z e => f4 y a z e.symm
  exact ⟨m, hn.sameBut sb haC, fun h3 sb3 => ⟨_, H', I2.turned (t' := s2.toks) (fun b o hb e => (sb3.2 b hb).trans e) f0 f1 f3 f4 f5, q⟩⟩
end
end Cy

set_option Elab.async false
set_option linter.all false
set_option maxRecDepth 100000
/-! Cy over the hand layer: changes in place. -/
namespace Cy
open L2 PySem PySem.Spec PyProof.Rows

section
variable {F : Fg} {W W' W0 : Wd} {s s' s0 : S} {σ σ' σ0 : St} {H H' H0 : Hp} {a : Addr} {d : D} {o : HO}
theorem touch_stab (nf : ¬ W.frz a) (l : LD (H a)) : Stab W H W (upd H a o) := by
  refine ⟨fun b hb => ⟨hb, keep_frz (upd_ne fun e => nf (by rw [← e]; exact hb))⟩, fun b xs hb => ?_, fun b ob u hb => ?_, fun _ _ h => h⟩
  · by_cases e : b = a
    · subst e; rw [hb] at l; exact l.elim
    · rw [upd_ne e]; exact hb
  · by_cases e : b = a
    · subst e; rw [hb] at l; exact l.elim
    · rw [upd_ne e]; exact hb
/-- an owned thing is changed -/
theorem Rel.setOwn (r : Rel F W s σ H) {i : Nat} {d d' : D} (h : s.sg[i]? = some (.own d)) (e : σ[i]? = some (some (.ref a))) (q' : Stab W H W (upd H a o) → OwnOb F W (upd H a o) a d') :
    Rel F W { s with sg := s.sg.set i (.own d') } σ (upd H a o) ∧ Ext W s σ H W { s with sg := s.sg.set i (.own d') } σ (upd H a o) ∧ Stab W H W (upd H a o) := by
  have oa : OwnAt s σ a := ⟨i, d, h, e⟩
  obtain ⟨ld, nf, nr⟩ := r.ownLD oa
  have t : Stab W H W (upd H a o) := touch_stab nf ld
  have obj : ∀ {b : Addr} {d' : D}, OwnOb F W H b d' → b ≠ a → OwnOb F W (upd H a o) b d' := fun q ne => q.stab t (upd_ne ne)
  have cases' : ∀ (j : Nat) (e' : D), (s.sg.set i (.own d'))[j]? = some (.own e') → (j = i ∧ e' = d') ∨ (j ≠ i ∧ s.sg[j]? = some (.own e')) := fun j e' hj => by
    rcases set_get hj with ⟨z1, z2, _⟩ | z
    · cases z2; exact .inl ⟨z1, rfl⟩
    · exact .inr z
  have back : ∀ (j : Nat) (e' : D), (s.sg.set i (.own d'))[j]? = some (.own e') → ∃ e'', s.sg[j]? = some (.own e'') := fun j e' hj => by
    rcases cases' j e' hj with ⟨rfl, _⟩ | ⟨_, z⟩
    · exact ⟨d, h⟩
    · exact ⟨e', z⟩
  refine ⟨⟨by simpa using r.len, fun j e' hj => ?_, fun j e' hj => ?_, fun j k e1 e2 c h1 h2 h3 h4 => ?_, fun b hb => ?_, fun n b hb => ?_, r.hp.all, r.hp.inj, r.hp.nor⟩, ⟨fun _ _ h => h, fun _ h => h, fun b ob hb no nr => ⟨.inl (by rw [upd_ne fun z => no (by rw [z]; exact oa)]; exact hb), fun z => z, nr⟩, fun b _ ⟨j, e', h1, h2⟩ => ?_, fun b hb => ?_⟩, t⟩
  · rcases set_get hj with ⟨_, z, _⟩ | ⟨_, z⟩
    · cases z
    · obtain ⟨v, e1, q⟩ := r.val j e' z
      exact ⟨v, e1, q.stab t⟩
  · rcases cases' j e' hj with ⟨rfl, rfl⟩ | ⟨ne, z⟩
    · exact ⟨a, e, q' t, nf, nr⟩
    · obtain ⟨b, e1, q, nf1, nr1⟩ := r.own j e' z
      exact ⟨b, e1, obj q fun y => ne (r.sep j i e' d b z h e1 (y ▸ e)), nf1, nr1⟩
  · obtain ⟨x1, z1⟩ := back j e1 h1
    obtain ⟨x2, z2⟩ := back k e2 h2
    exact r.sep j k x1 x2 c z1 z2 h3 h4
  · rw [upd_ne fun z => nf (by rw [← z]; exact hb)]; exact r.hp.frz b hb
  · obtain ⟨nf1, ob, e1, q⟩ := r.hp.refs n b hb
    exact ⟨nf1, ob, e1, obj q fun z => nr n (z ▸ hb)⟩
  · obtain ⟨e'', z⟩ := back j e' h1
    exact ⟨j, e'', z, h2⟩
  · by_cases z : b = a
    · rw [z, upd_same] at hb; cases hb
    · rw [upd_ne z] at hb; exact hb
/-- a shared object is changed -/
theorem Rel.setRef (r : Rel F W s σ H) {n : Nat} {ob ob' : Ob} (hn : W.ref n = some a) (h : s.h[n]? = some ob) (nb : noRO 0 ob' = true) (q' : Stab W H W (upd H a o) → OwnOb F W (upd H a o) a (obD ob')) :
    Rel F W (setOb s n ob') σ (upd H a o) ∧ Ext W s σ H W (setOb s n ob') σ (upd H a o) ∧ Stab W H W (upd H a o) := by
  obtain ⟨ld, nf⟩ := r.hp.refLD hn
  have t : Stab W H W (upd H a o) := touch_stab nf ld
  have obj : ∀ {b : Addr} {d' : D}, OwnOb F W H b d' → b ≠ a → OwnOb F W (upd H a o) b d' := fun q ne => q.stab t (upd_ne ne)
  have no : ¬ OwnAt s σ a := fun z => (r.ownLD z).2.2 n hn
  have lt : n < s.h.length := (List.getElem?_eq_some_iff.mp h).1
  refine ⟨⟨r.len, fun j e' hj => ?_, fun j e' hj => ?_, r.sep, fun b hb => ?_, fun m b hb => ?_, fun m o' hm => ?_, r.hp.inj, fun m o' hm => ?_⟩, ⟨fun _ _ h => h, fun _ h => h, fun b ob hb no nr => ⟨.inl (by rw [upd_ne fun z => nr n (by rw [z]; exact hn)]; exact hb), fun z => z, nr⟩, fun _ _ h => h, fun b hb => ?_⟩, t⟩
  · obtain ⟨v, e1, q⟩ := r.val j e' hj
    exact ⟨v, e1, q.stab t⟩
  · obtain ⟨b, e1, q, nf1, nr1⟩ := r.own j e' hj
    exact ⟨b, e1, obj q fun y => nr1 n (y ▸ hn), nf1, nr1⟩
  · rw [upd_ne fun z => nf (by rw [← z]; exact hb)]; exact r.hp.frz b hb
  · obtain ⟨nf1, ob1, e1, q⟩ := r.hp.refs m b hb
    by_cases z : m = n
    · subst z
      rw [hn] at hb; cases hb
      exact ⟨nf1, ob', by show (s.h.set m ob')[m]? = _; rw [List.getElem?_set_self lt], q' t⟩
    · exact ⟨nf1, ob1, by show (s.h.set n ob')[m]? = _; rw [List.getElem?_set_ne (Ne.symm z)]; exact e1, obj q fun y => z (r.hp.inj m n b hb (y ▸ hn))⟩
  · have hm : (s.h.set n ob')[m]? = some o' := hm
    by_cases z : n = m
    · exact ⟨a, z ▸ hn⟩
    · rw [List.getElem?_set_ne z] at hm; exact r.hp.all m o' hm
  · have hm : (s.h.set n ob')[m]? = some o' := hm
    by_cases z : n = m
    · subst z
      rw [List.getElem?_set_self lt] at hm; cases hm; exact nb
    · rw [List.getElem?_set_ne z] at hm; exact r.hp.nor m o' hm
  · by_cases z : b = a
    · rw [z, upd_same] at hb; cases hb
    · rw [upd_ne z] at hb; exact hb
theorem DenL.dropLast {vs : List V} {l : List D} (h : DenL F W H vs l) : DenL F W H vs.dropLast l.dropLast := by
  rw [List.dropLast_eq_take, List.dropLast_eq_take, h.length]
  exact h.take _
theorem noRL_app {m : Nat} : ∀ {l k : List D}, noRL m l = true → noRL m k = true → noRL m (l ++ k) = true
  | [], _, _, h => h
  | x :: l, k, h, h2 => by
    rw [noRL, Bool.and_eq_true] at h
    rw [List.cons_append, noRL, Bool.and_eq_true]
    exact ⟨h.1, noRL_app h.2 h2⟩
theorem noRL_mem {m : Nat} : ∀ {l : List D}, noRL m l = true ↔ ∀ x ∈ l, noR m x = true
  | [] => by simp [noRL]
  | x :: l => by
    rw [noRL, Bool.and_eq_true, noRL_mem (l := l)]
    simp
theorem noRL_sub {m : Nat} {l k : List D} (h : noRL m l = true) (s : ∀ x ∈ k, x ∈ l) : noRL m k = true := noRL_mem.mpr fun x hx => noRL_mem.mp h x (s x hx)
theorem noRK_mem {m : Nat} : ∀ {l : List (K × D)}, noRK m l = true ↔ ∀ p ∈ l, noR m p.2 = true
  | [] => by simp [noRK]
  | (_, x) :: l => by
    rw [noRK, Bool.and_eq_true, noRK_mem (l := l)]
    simp
theorem noRT_mem {m : Nat} : ∀ {l : List (List K × D)}, noRT m l = true ↔ ∀ p ∈ l, noR m p.2 = true
  | [] => by simp [noRT]
  | (_, x) :: l => by
    rw [noRT, Bool.and_eq_true, noRT_mem (l := l)]
    simp
theorem dput_mem {κ : Type} [DecidableEq κ] {l : List (κ × D)} {k : κ} {d : D} {p : κ × D} (h : p ∈ dput l k d) : p.2 = d ∨ p ∈ l := by
  unfold dput at h
  split at h
  · obtain ⟨q, hq, e⟩ := List.mem_map.mp h
    split at e
    · exact .inl (by rw [← e])
    · exact .inr (e ▸ hq)
  · rcases List.mem_append.mp h with h | h
    · exact .inr h
    · rw [List.mem_singleton] at h; exact .inl (by rw [h])
theorem noRK_put {m : Nat} {l : List (K × D)} {k : K} {d : D} (h : noRK m l = true) (hd : noR m d = true) : noRK m (dput l k d) = true := noRK_mem.mpr fun p hp => (dput_mem hp).elim (fun e => by rw [e]; exact hd) (noRK_mem.mp h p)
theorem noRT_put {m : Nat} {l : List (List K × D)} {k : List K} {d : D} (h : noRT m l = true) (hd : noR m d = true) : noRT m (dput l k d) = true := noRT_mem.mpr fun p hp => (dput_mem hp).elim (fun e => by rw [e]; exact hd) (noRT_mem.mp h p)
theorem noRL_set {m : Nat} {l : List D} {n : Nat} {d : D} (h : noRL m l = true) (hd : noR m d = true) : noRL m (l.set n d) = true := noRL_mem.mpr fun x hx => (List.mem_or_eq_of_mem_set hx).elim (noRL_mem.mp h x) fun e => by rw [e]; exact hd
theorem okSt_and {s : S} {i : Nat} {a b c : Bool} (h1 : okSt s i a = true) (h2 : okSt s i b = true) (f : a = true → b = true → c = true) : okSt s i c = true := by
  unfold okSt at *
  split at h1
  · rename_i q
    simp only [q] at h2 ⊢
    exact f h1 h2
  · rfl
theorem Rel.okL (r : Rel F W s σ H) {i : Nat} {l : List D} (h : lstOf s i = some l) : okSt s i (noRL 0 l) = true := by
  unfold lstOf at h
  unfold okSt
  split at h
  · rename_i q; rw [q]
  · rename_i n q
    rw [q]
    split at h
    · rename_i q2; cases h; exact r.hp.nor _ _ q2
    · cases h
  · cases h
theorem putO_nor {o o' : Ob} {k v : D} (h : putO o k v = some o') (hv : noR 0 v = true) (ho : noRO 0 o = true) : noRO 0 o' = true := by
  cases o with
  | lst l =>
    simp only [putO] at h
    split at h
    · split at h
      · cases h; exact noRL_set ho hv
      · cases h
    · cases h
  | dic l =>
    simp only [putO] at h
    split at h
    · split at h
      · cases h; exact noRK_put ho hv
      · cases h
    · cases h
  | dit l =>
    simp only [putO] at h
    split at h
    · split at h
      · cases h; exact noRT_put ho hv
      · cases h
    · cases h
/-- a list at hand -/
theorem Rel.lstOf (r : Rel F W s σ H) {i : Nat} {l : List D} (h : lstOf s i = some l) : ∃ a vs, σ[i]? = some (some (.ref a)) ∧ H a = some (.lst vs) ∧ DenL F W H vs l ∧
    ∀ ws m, okSt s i (noRL 0 m) = true → (Stab W H W (upd H a (.lst ws)) → DenL F W (upd H a (.lst ws)) ws m) → Rel F W (putL s i m) σ (upd H a (.lst ws)) ∧ Ext W s σ H W (putL s i m) σ (upd H a (.lst ws)) ∧ Stab W H W (upd H a (.lst ws)) := by
  unfold Cy.lstOf at h
  unfold putL
  cases q : s.sg[i]? with
  | none => rw [q] at h; cases h
  | some c =>
    rw [q] at h
    cases c with
    | no => cases h
    | own d =>
      cases d with
      | lst l' =>
        cases h
        obtain ⟨a, e, ⟨vs, ha, dl⟩, _⟩ := r.own i _ q
        exact ⟨a, vs, e, ha, dl, fun ws m _ k => r.setOwn q e fun t => ⟨ws, upd_same, k t⟩⟩
      | _ => cases h
    | val d =>
      cases d with
      | ref n =>
        have h : (match s.h[n]? with | some (.lst l) => some l | _ => none) = some l := h
        obtain ⟨v, e, dv⟩ := r.val i _ q
        obtain ⟨a, rfl, hn⟩ := DenC.ref (.inl dv)
        cases qo : s.h[n]? with
        | none => rw [qo] at h; cases h
        | some ob =>
          rw [qo] at h
          cases ob with
          | lst l' =>
            cases h
            obtain ⟨_, ob1, q1, w⟩ := r.hp.refs n a hn
            rw [qo] at q1; cases q1
            obtain ⟨vs, ha, dl⟩ := w
            exact ⟨a, vs, e, ha, dl, fun ws m nb k => r.setRef hn qo (by unfold okSt at nb; rw [q] at nb; exact nb) fun t => ⟨ws, upd_same, k t⟩⟩
          | _ => cases h
      | _ => cases h
end

section
variable {X : Cx} {Wx : WX} {g : G} {i : Nat} {x : Str} {px apos cpos pos : Pos} {e : Expr} {c : Ex}
theorem isSome_ex {α : Type} {o : Option α} (h : o.isSome = true) : ∃ y, o = some y := by
  cases o with
  | none => cases h
  | some y => exact ⟨y, rfl⟩
/-- the name's list, then an argument, then a change -/
theorem list_meth {F : Fg} {r : V → List V → Hp → VK → Prop} {f : List D → D → S → Res D} {σ : St} {H : Hp} {Q : VK} {W : Wd} {s : S} (rl : Rel F W s σ H) (hs : (lstOf s i).isSome = true)
    (p : Post F Wx (Den F) W s σ H Q ((c g s).bind fun d s1 => match lstOf s1 i with | some l => f l d s1 | none => .bad))
    (k : ∀ W1 s1 H1 a vs l v d, Ext W s σ H W1 s1 σ H1 → Rel F W1 s1 σ H1 → σ[i]? = some (some (.ref a)) → H1 a = some (.lst vs) → DenL F W1 H1 vs l → lstOf s1 i = some l → Den F W1 H1 v d →
      (∀ ws m, okSt s1 i (noRL 0 m) = true → (Stab W1 H1 W1 (upd H1 a (.lst ws)) → DenL F W1 (upd H1 a (.lst ws)) ws m) → Rel F W1 (putL s1 i m) σ (upd H1 a (.lst ws)) ∧ Ext W1 s1 σ H1 W1 (putL s1 i m) σ (upd H1 a (.lst ws)) ∧ Stab W1 H1 W1 (upd H1 a (.lst ws))) →
      Post F Wx (Den F) W1 s1 σ H1 Q (f l d s1) → r (.ref a) [v] H1 Q) :
    tBM F "list" r (tVar i) (tax F Wx g (aCons c aNil)) σ H Q := by
  obtain ⟨l0, h0⟩ := isSome_ex hs
  obtain ⟨a, vs, e, ha, dl, _⟩ := rl.lstOf h0
  refine ⟨.ref a, e, .inl ⟨rfl, vs, SqL.of ha⟩, W, s, rl, ?_⟩
  unfold aCons aNil
  cases q : c g s with
  | bad => rw [q] at p; exact p
  | exc y s1 => rw [q] at p; exact p
  | ok d s1 =>
    rw [q] at p
    intro W1 H1 us e1 r1 d1
    cases d1 with
    | cons dv dn =>
      cases dn
      cases q2 : lstOf s1 i with
      | none => simp only [Res.bind, q2] at p; exact p.elim
      | some l =>
        simp only [Res.bind, q2] at p
        obtain ⟨a', vs', e', ha', dl', st'⟩ := r1.lstOf q2
        rw [e] at e'; cases e'
        exact k W1 s1 H1 a vs' l _ d e1 r1 e ha' dl' q2 dv st' (Post.shift e1 p)
theorem pe_listM {id : String} {name : Str} {r : V → List V → Hp → VK → Prop} (slot : Slot "list" name id) (hty : typeOf (.builtin id) = pure (.type "method_descriptor")) (hm : MtR X id r) (hN : X.N[i]? = some x) (hv : Vis X.env.scope x) (hd : (x == ("__debug__" : Str)) = false) (hcd : (x == ("__classdict__" : Str)) = false)
    (ha : PA X [e] (tax X.K Wx g (aCons c aNil))) (hs : isStar e = false) (hl : (apos.endLine == cpos.line) = true) : PE X (.Call (.Attribute (.Name x px) name apos) [e] [] cpos) (tBM X.K "list" r (tVar i) (tax X.K Wx g (aCons c aNil))) :=
  pe_bm F.plainAttrs_list slot hty hm (pe_var hN hv hd hcd) ha rfl (by rw [starEach_of hs]; rfl) hl (starEach_of hs) rfl
theorem se_app (hN : X.N[i]? = some x) (hv : Vis X.env.scope x) (hd : (x == ("__debug__" : Str)) = false) (hcd : (x == ("__classdict__" : Str)) = false)
    (ha : PA X [e] (tax X.K Wx g (aCons c aNil))) (hs : isStar e = false) (hl : (apos.endLine == cpos.line) = true) : PE X (.Call (.Attribute (.Name x px) "append" apos) [e] [] cpos) (tev X.K Wx g (appE i c)) := by
  refine (pe_listM F.slot_list_append F.type_list_append mt_append hN hv hd hcd ha hs hl).mono fun σ H Q ⟨W, s, rl, p⟩ => ?_
  unfold appE at p
  by_cases z : (lstOf s i).isSome = true
  · rw [if_pos z] at p
    refine list_meth (f := fun l d s1 => if l.length < lim ∧ okSt s1 i (noR 0 d) = true then .ok .non (putL s1 i (l ++ [d])) else .bad) rl z p fun W1 s1 H1 a vs l v d e1 r1 e ha dl hl dv st p1 => ?_
    by_cases q : l.length < lim ∧ okSt s1 i (noR 0 d) = true
    · simp only [if_pos q] at p1
      obtain ⟨r2, e2, _⟩ := st (vs ++ [v]) (l ++ [d]) (okSt_and (r1.okL hl) q.2 fun h1 h2 => noRL_app h1 (by rw [noRL, h2]; rfl)) fun t => (dl.stab t).append (.cons (dv.stab t) .nil)
      exact ⟨a, vs, v, rfl, rfl, ha, by rw [dl.length]; exact q.1, p1 _ _ _ e2 r2 .non⟩
    · simp only [if_neg q] at p1; exact p1.elim
  · rw [if_neg z] at p; exact p.elim
theorem se_ext (hN : X.N[i]? = some x) (hv : Vis X.env.scope x) (hd : (x == ("__debug__" : Str)) = false) (hcd : (x == ("__classdict__" : Str)) = false)
    (ha : PA X [e] (tax X.K Wx g (aCons c aNil))) (hs : isStar e = false) (hl : (apos.endLine == cpos.line) = true) : PE X (.Call (.Attribute (.Name x px) "extend" apos) [e] [] cpos) (tev X.K Wx g (extE i c)) := by
  refine (pe_listM F.slot_list_extend F.type_list_extend mt_extend hN hv hd hcd ha hs hl).mono fun σ H Q ⟨W, s, rl, p⟩ => ?_
  unfold extE at p
  by_cases z : (lstOf s i).isSome = true
  · rw [if_pos z] at p
    refine list_meth (f := fun l d s1 => match d with | .lst m => if l.length + m.length ≤ lim ∧ okSt s1 i (noRL 0 m) = true then .ok .non (putL s1 i (l ++ m)) else .bad | _ => .bad) rl z p fun W1 s1 H1 a vs l v d e1 r1 e ha dl hl dv st p1 => ?_
    cases d with
    | lst m =>
      obtain ⟨b, us, rfl, hb, dm⟩ := DenC.lst (.inl dv)
      by_cases q : l.length + m.length ≤ lim ∧ okSt s1 i (noRL 0 m) = true
      · simp only [if_pos q] at p1
        obtain ⟨r2, e2, _⟩ := st (vs ++ us) (l ++ m) (okSt_and (r1.okL hl) q.2 noRL_app) fun t => (dl.stab t).append (dm.stab t)
        exact ⟨a, b, vs, us, rfl, rfl, ha, hb, by rw [dl.length, dm.length]; exact q.1, p1 _ _ _ e2 r2 .non⟩
      · simp only [if_neg q] at p1; exact p1.elim
    | _ => exact p1.elim
  · rw [if_neg z] at p; exact p.elim
theorem se_pop (hN : X.N[i]? = some x) (hv : Vis X.env.scope x) (hd : (x == ("__debug__" : Str)) = false) (hcd : (x == ("__classdict__" : Str)) = false) (hl : (apos.endLine == cpos.line) = true) : PE X (.Call (.Attribute (.Name x px) "pop" apos) [] [] cpos) (tev X.K Wx g (popE i)) := by
  refine (pe_bm0 F.plainAttrs_list F.slot_list_pop F.type_list_pop mt_pop (pe_var hN hv hd hcd) rfl hl).mono fun σ H Q ⟨W, s, rl, p⟩ => ?_
  unfold popE at p
  cases q : lstOf s i with
  | none => simp only [q] at p; exact p.elim
  | some l =>
    simp only [q] at p
    obtain ⟨a, vs, e, ha, dl, st⟩ := rl.lstOf q
    refine ⟨.ref a, e, .inl ⟨rfl, vs, SqL.of ha⟩, ?_⟩
    cases q2 : l[l.length - 1]? with
    | none => simp only [q2] at p; exact p.elim
    | some d =>
      simp only [q2] at p
      obtain ⟨y, hy, dy⟩ := dl.get q2
      obtain ⟨r2, e2, t2⟩ := st vs.dropLast l.dropLast (okSt_and (rl.okL q) (rl.okL q) fun h _ => noRL_sub h fun x hx => List.dropLast_subset l hx) fun t => (dl.stab t).dropLast
      exact ⟨a, vs, y, rfl, rfl, ha, by rw [dl.length]; exact hy, p _ _ _ e2 r2 (dy.stab t2)⟩
theorem ixN_seq {n : Nat} {k : Int} {j : Nat} (h : ixN n k = some j) : seqIndex? k n = some j := by
  unfold ixN at h
  unfold seqIndex?
  by_cases z : 0 ≤ k
  · rw [if_pos z] at h
    by_cases y : k < n
    · rw [if_pos y] at h
      cases h
      simp only [show ¬ k < 0 by omega, if_false]
      first
        | (rw [if_pos (by simp; omega)])
        | (simp; omega)
        | (simp only [Bool.and_eq_true, decide_eq_true_eq]; rw [if_pos (by omega)])
    · rw [if_neg y] at h; cases h
  · rw [if_neg z] at h
    by_cases y : -(n : Int) ≤ k
    · rw [if_pos y] at h
      cases h
      simp only [show k < 0 by omega, if_true]
      first
        | (rw [if_pos (by simp; omega)])
        | (simp; omega)
        | (simp only [Bool.and_eq_true, decide_eq_true_eq]; rw [if_pos (by omega)])
    · rw [if_neg y] at h; cases h
theorem se_popAt (hN : X.N[i]? = some x) (hv : Vis X.env.scope x) (hd : (x == ("__debug__" : Str)) = false) (hcd : (x == ("__classdict__" : Str)) = false)
    (ha : PA X [e] (tax X.K Wx g (aCons c aNil))) (hs : isStar e = false) (hl : (apos.endLine == cpos.line) = true) : PE X (.Call (.Attribute (.Name x px) "pop" apos) [e] [] cpos) (tev X.K Wx g (popAtE i c)) := by
  refine (pe_listM F.slot_list_pop F.type_list_pop mt_popAt hN hv hd hcd ha hs hl).mono fun σ H Q ⟨W, s, rl, p⟩ => ?_
  unfold popAtE at p
  by_cases z : (lstOf s i).isSome = true
  · rw [if_pos z] at p
    refine list_meth (f := fun l k s1 => match k with
      | .int k => if smallI k then (match ixN l.length k with
        | some j => (match l[j]? with
          | some d => .ok d (putL s1 i (l.eraseIdx j))
          | none => .bad)
        | none => .bad) else .bad
      | _ => .bad) rl z p fun W1 s1 H1 a vs l v d e1 r1 e ha dl hl dv st p1 => ?_
    cases d with
    | int k =>
      obtain rfl := dv.intv
      by_cases sm : smallI k = true
      · simp only [if_pos sm] at p1
        cases q : ixN l.length k with
        | none => simp only [q] at p1; exact p1.elim
        | some j =>
          simp only [q] at p1
          cases q2 : l[j]? with
          | none => simp only [q2] at p1; exact p1.elim
          | some d =>
            simp only [q2] at p1
            obtain ⟨y, hy, dy⟩ := dl.get q2
            obtain ⟨r2, e2, t2⟩ := st (vs.eraseIdx j) (l.eraseIdx j) (okSt_and (r1.okL hl) (r1.okL hl) fun h _ => noRL_sub h fun x hx => List.mem_of_mem_eraseIdx hx) fun t => (dl.stab t).eraseIdx j
            have b := smallI_b sm
            exact ⟨a, vs, k, j, y, rfl, rfl, ha, by omega, by omega, ixN_seq (by rw [dl.length]; exact q), hy, p1 _ _ _ e2 r2 (dy.stab t2)⟩
      · simp only [if_neg sm] at p1; exact p1.elim
    | _ => exact p1.elim
  · rw [if_neg z] at p; exact p.elim

/-! ### x[k] = e -/
def rPutA : TSet := fun o i v H Q => rSetL o i v H Q ∨ rSetD o i v H Q
theorem set_any (hu : X.A.units + 200 < cLine) : L2.PSet X rPutA := fun pins s σ H o i v ov iv u Q I ro ri rv h =>
  h.elim (fun h => set_list pins s σ H o i v ov iv u Q I ro ri rv h) fun h => set_dict (by omega) pins s σ H o i v ov iv u Q I ro ri rv h
theorem DenT.put {F : Fg} {W : Wd} {H : Hp} {v : V} {x : D} (h : Den F W H v x) (k : List K) : ∀ {vs : List (List Key × V)} {l : List (List K × D)}, DenT F W H vs l → DenT F W H (putK vs (k.map kk) v) (dput l k x) := by
  intro vs l d
  have inj : ∀ {a b : List K}, a.map kk = b.map kk → a = b := fun e => (List.map_inj_right fun _ _ z => kk_inj z).mp e
  have any : ∀ {vs : List (List Key × V)} {l : List (List K × D)}, DenT F W H vs l → (vs.any fun p => decide (p.1 = k.map kk)) = (l.any fun p => decide (p.1 = k)) := by
    intro vs l d
    induction l generalizing vs with
    | nil => cases d; rfl
    | cons p l ih =>
      cases d with
      | @cons j _ vs _ ds _ d =>
        have e : decide (j.map kk = k.map kk) = decide (j = k) := decide_eq_decide.mpr ⟨inj, fun z => congrArg _ z⟩
        rw [List.any_cons, List.any_cons, e, ih d]
  have mp : ∀ {vs : List (List Key × V)} {l : List (List K × D)}, DenT F W H vs l → DenT F W H (vs.map fun p => if p.1 = k.map kk then (p.1, v) else p) (l.map fun p => if p.1 = k then (p.1, x) else p) := by
    intro vs l d
    induction l generalizing vs with
    | nil => cases d; exact .nil
    | cons p l ih =>
      cases d with
      | @cons j _ vs _ ds dj d =>
        rw [List.map_cons, List.map_cons]
        by_cases z : j = k
        · rw [if_pos z, if_pos (congrArg _ z)]; exact .cons h (ih d)
        · rw [if_neg z, if_neg fun y => z (inj y)]; exact .cons dj (ih d)
  have ap : ∀ {vs : List (List Key × V)} {l : List (List K × D)}, DenT F W H vs l → DenT F W H (vs ++ [(k.map kk, v)]) (l ++ [(k, x)]) := by
    intro vs l d
    induction l generalizing vs with
    | nil => cases d; exact .cons h .nil
    | cons p l ih => cases d with
      | cons dj d => exact .cons dj (ih d)
  unfold putK dput
  rw [any d]
  split
  · exact mp d
  · exact ap d
section
variable {F : Fg} {W : Wd} {s s' : S} {σ : St} {H : Hp}
theorem put_lst {a : Addr} {vs : List V} {l : List D} {k' : V} {k : Int} {j : Nat} {v : V} {Q : Hp → Prop} (ha : H a = some (.lst vs)) (dl : DenL F W H vs l) (hk : k' = .int k) (hj : ixN l.length k = some j)
    (q : Q (upd H a (.lst (vs.set j v)))) : rPutA (.ref a) k' v H Q := .inl ⟨a, vs, k, j, rfl, hk, ha, by rw [dl.length]; exact hj, q⟩
theorem put_dic {a : Addr} {vs : List (Key × V)} {l : List (K × D)} {k' : V} {k : K} {v : V} {Q : Hp → Prop} (ha : H a = some (.dK vs)) (dl : DenK F W H vs l) (hk : k' = kV (kk k)) (hl : l.length < lim)
    (q : Q (upd H a (.dK (putK vs (kk k) v)))) : rPutA (.ref a) k' v H Q := .inr ⟨a, _, rfl, hk ▸ DPut.k ha (by rw [dl.length]; exact hl), q⟩
theorem put_dit {a b : Addr} {vs : List (List Key × V)} {l : List (List K × D)} {k' : V} {k : List K} {v : V} {Q : Hp → Prop} (ha : H a = some (.dT vs)) (dl : DenT F W H vs l) (hk : k' = .ref b) (hb : H b = some (.tup ((k.map kk).map kV))) (hl : l.length < lim)
    (q : Q (upd H a (.dT (putK vs (k.map kk) v)))) : rPutA (.ref a) k' v H Q := .inr ⟨a, _, rfl, hk ▸ DPut.t ha hb (by rw [dl.length]; exact hl), q⟩
/-- a thing at a is changed so -/
theorem putD_run {a : Addr} {d d' k x : D} {k' v : V} {Q : Hp → Prop} (ob : OwnOb F W H a d) (e : putD d k x = some d') (dk : Den F W H k' k)
    (q : ∀ o, (Stab W H W (upd H a o) → Den F W (upd H a o) v x → OwnOb F W (upd H a o) a d') → Q (upd H a o)) : rPutA (.ref a) k' v H Q := by
  cases d with
  | lst l =>
    obtain ⟨vs, ha, dl⟩ := ob
    cases k with
    | int i =>
      have e : (match ixN l.length i with | some j => some (D.lst (l.set j x)) | none => none) = some d' := e
      cases qj : ixN l.length i with
      | none => rw [qj] at e; cases e
      | some j =>
        rw [qj] at e; cases e
        exact put_lst ha dl dk.intv qj (q _ fun t dv => ⟨_, upd_same, (dl.stab t).set dv j⟩)
    | _ => cases e
  | dic l =>
    obtain ⟨vs, ha, dl⟩ := ob
    have e : (match key? k with | some k => if l.length < lim then some (D.dic (dput l k x)) else none | none => none) = some d' := e
    cases qk : key? k with
    | none => rw [qk] at e; cases e
    | some k2 =>
      rw [qk] at e
      by_cases hl : l.length < lim
      · simp only [if_pos hl, Option.some.injEq] at e
        subst e
        exact put_dic ha dl (DenC.key (.inl dk) qk) hl (q _ fun t dv => ⟨_, upd_same, DenK.put dv k2 (dl.stab t)⟩)
      · simp only [if_neg hl, reduceCtorEq] at e
  | dit l =>
    obtain ⟨vs, ha, dl⟩ := ob
    have e : (match keys? k with | some k => if l.length < lim then some (D.dit (dput l k x)) else none | none => none) = some d' := e
    cases qk : keys? k with
    | none => rw [qk] at e; cases e
    | some k2 =>
      rw [qk] at e
      by_cases hl : l.length < lim
      · simp only [if_pos hl, Option.some.injEq] at e
        subst e
        obtain ⟨b, eb, hb⟩ := DenC.keyT (.inl dk) qk
        exact put_dit ha dl eb hb hl (q _ fun t dv => ⟨_, upd_same, DenT.put dv k2 (dl.stab t)⟩)
      · simp only [if_neg hl, reduceCtorEq] at e
  | _ => exact ob.elim
theorem putO_D {o o' : Ob} {k v : D} (h : putO o k v = some o') : putD (obD o) k v = some (obD o') := by
  cases o with
  | lst l =>
    simp only [putO, putD, obD] at h ⊢
    split at h
    · split at h
      · cases h; rename_i _ _ j q; simp only [q]
      · cases h
    · cases h
  | dic l =>
    simp only [putO, putD, obD] at h ⊢
    split at h
    · rename_i k2 q
      split at h
      · cases h; rename_i z; simp only [q, if_pos z]
      · cases h
    · cases h
  | dit l =>
    simp only [putO, putD, obD] at h ⊢
    split at h
    · rename_i k2 q
      split at h
      · cases h; rename_i z; simp only [q, if_pos z]
      · cases h
    · cases h
theorem put_run {k x : D} {k' v : V} {u : V} {Q : Hp → Prop} (r : Rel F W s σ H) (e : put s i k x = some s') (hu : σ[i]? = some (some u)) (dk : Den F W H k' k) (dv : Den F W H v x)
    (q : ∀ H', Rel F W s' σ H' → Ext W s σ H W s' σ H' → Q H') : rPutA u k' v H Q := by
  unfold put at e
  cases qs : s.sg[i]? with
  | none => rw [qs] at e; cases e
  | some c =>
    rw [qs] at e
    cases c with
    | no => cases e
    | own d =>
      have e : (match putD d k x with | some d => some { s with sg := s.sg.set i (.own d) } | none => none) = some s' := e
      obtain ⟨a, ea, ob, _⟩ := r.own i d qs
      rw [hu] at ea; cases ea
      cases qp : putD d k x with
      | none => rw [qp] at e; cases e
      | some d' =>
        rw [qp] at e; cases e
        refine putD_run ob qp dk fun o w => ?_
        obtain ⟨r2, e2, _⟩ := r.setOwn (o := o) qs hu fun t => w t (dv.stab t)
        exact q _ r2 e2
    | val d =>
      cases d with
      | ref n =>
        have e : (match s.h[n]? with | some o => if noR 0 x = true then (match putO o k x with | some o => some (setOb s n o) | none => none) else none | none => none) = some s' := e
        obtain ⟨v1, ea, d1⟩ := r.val i _ qs
        rw [hu] at ea; cases ea
        obtain ⟨a, rfl, hn⟩ := DenC.ref (.inl d1)
        cases qo : s.h[n]? with
        | none => rw [qo] at e; cases e
        | some ob =>
          rw [qo] at e
          simp only [] at e
          by_cases nx : noR 0 x = true
          case neg => rw [if_neg nx] at e; cases e
          rw [if_pos nx] at e
          cases qp : putO ob k x with
          | none => rw [qp] at e; cases e
          | some ob' =>
            rw [qp] at e; cases e
            obtain ⟨_, ob1, q1, w⟩ := r.hp.refs n a hn
            rw [qo] at q1; cases q1
            refine putD_run w (putO_D qp) dk fun o w => ?_
            obtain ⟨r2, e2, _⟩ := r.setRef (o := o) hn qo (putO_nor qp nx (r.hp.nor _ _ qo)) fun t => w t (dv.stab t)
            exact q _ r2 e2
      | _ => cases e
end
theorem ss_put {k : Expr} {ck ce : Ex} {tpos : Pos} (cc : Cc X Wx) (hN : X.N[i]? = some x) (hv : Vis X.env.scope x) (hd : (x == ("__debug__" : Str)) = false) (hcd : (x == ("__classdict__" : Str)) = false)
    (hk : PE X k (tev X.K Wx g ck)) (he : PE X e (tev X.K Wx g ce)) (hs : isComp e = false) (hsl : isSl k = false) (hw : swappedStores [.Subscript (.Name x px) k tpos] e X.env = pure none) : PS X (.Assign [.Subscript (.Name x px) k tpos] e pos) (tst X.K Wx g (putS i ck ce)) := by
  refine (ps_asg he (pg_sub (pe_var hN hv hd hcd) hk (set_any cc.un) fun v => by cases k <;> first | rfl | cases hsl) ?_ hw ?_).mono fun En σ H ⟨W, s, r, p⟩ => ?_
  · exact swaps_of (t := some (.Subscript (.Name x px) k tpos)) (l := pos.line) (env := X.env) hs
  · rfl
  · have p : PostF X.K Wx W s σ H En ((ce g s).thn fun v s => match evP i s with
      | .ok _ s => (match ck g s with
        | .ok k s => (match put s i k v with | some s => .nx s | none => .bad)
        | .bad => .bad
        | .exc x h => .exc x h)
      | _ => .bad) := by
      unfold putS at p
      cases q : ce g s <;> rw [q] at p <;> exact p
    refine fl_bind (De := Den X.K) r p fun d s1 W1 H1 v e1 r1 d1 p1 => ?_
    show ∃ u, σ[i]? = some (some u) ∧ _
    unfold evP at p1
    have main : ∀ {u : V}, σ[i]? = some (some u) → PostF X.K Wx W1 s1 σ H1 En ((ck g s1).thn fun k s => match put s i k d with | some s => .nx s | none => .bad) → tev X.K Wx g ck σ H1 fun k' H2 => rPutA u k' v H2 fun H3 => En.nx σ H3 := by
      intro u hu p1
      refine fl_bind (De := Den X.K) r1 p1 fun dk s2 W2 H2 vk e2 r2 d2 p2 => ?_
      cases q : put s2 i dk d with
      | none => simp only [q] at p2; exact p2.elim
      | some s3 =>
        simp only [q] at p2
        exact put_run r2 q hu d2 (d1.ext r1 e2) fun H' r3 e3 => p2 W2 σ H' e3 r3
    have same : ∀ {f : D → S → Fl}, (match ck g s1 with | .ok k s => f k s | .bad => .bad | .exc x h => .exc x h) = (ck g s1).thn f := fun {f} => by cases ck g s1 <;> rfl
    cases q : s1.sg[i]? with
    | none => simp only [q] at p1; exact p1.elim
    | some c =>
      cases c with
      | no => simp only [q] at p1; exact p1.elim
      | val d' =>
        simp only [q] at p1
        obtain ⟨u, eu, _⟩ := r1.val i d' q
        exact ⟨u, eu, main eu (same ▸ p1)⟩
      | own d' =>
        simp only [q] at p1
        obtain ⟨a, eu, _⟩ := r1.own i d' q
        exact ⟨_, eu, main eu (same ▸ p1)⟩
end
end Cy

set_option Elab.async false
set_option linter.all false
set_option maxRecDepth 100000
/-! Cy over the hand layer: built-in functions. -/
namespace Cy
open L2 PySem PySem.Spec PyProof.Rows

/-- what a built-in function of one thing asks is there -/
def PrimB (F : Fg) (f : List Ob → D → Option D) (r : List V → Hp → VK → Prop) : Prop := ∀ (W : Wd) (s : S) (σ : St) (H : Hp) (v : V) (d z : D) (Q : VK), Rel F W s σ H → DenC F W H v d → f s.h d = some z → Ends1 F W s σ H z Q → r [v] H Q
def PrimB2 (F : Fg) (f : List Ob → D → D → Option D) (r : List V → Hp → VK → Prop) : Prop := ∀ (W : Wd) (s : S) (σ : St) (H : Hp) (v u : V) (d e z : D) (Q : VK), Rel F W s σ H → DenC F W H v d → DenC F W H u e → f s.h d e = some z → Ends1 F W s σ H z Q → r [v, u] H Q
section
variable {X : Cx} {Wx : WX} {g : G} {x : Str} {p pos : Pos} {e e2 : Expr} {oa ob : Op} {f : List Ob → D → Option D} {f2 : List Ob → D → D → Option D} {r : List V → Hp → VK → Prop} {id T : String}
/-- a row of one, of two -/
def tRow1 (t : TE) : TA := fun σ H Q => t σ H fun v H1 => Q [v] H1
def tRow2 (t u : TE) : TA := fun σ H Q => t σ H fun v H1 => u σ H1 fun w H2 => Q [v, w] H2
theorem pa_row1 {t : TE} (h : PE X e t) (hs : isStar e = false) : PA X [e] (tRow1 t) := pa_cons h pa_nil (starEach_of hs)
theorem pa_row2 {t u : TE} (h : PE X e t) (h2 : PE X e2 u) (hs : isStar e = false) (hs2 : isStar e2 = false) : PA X [e, e2] (tRow2 t u) := pa_cons h (pa_cons h2 pa_nil (starEach_of hs2)) (starEach_of hs)
theorem row1_run (pr : PrimB X.K f r) {σ : St} {H : Hp} {Q : VK} (h : tev X.K Wx g (o1 f oa) σ H Q) : tCB r (tRow1 (top X.K Wx g oa)) σ H Q :=
  rd_one (r := fun v H Q => r [v] H Q) pr h
theorem row2_run (pr : PrimB2 X.K f2 r) {σ : St} {H : Hp} {Q : VK} (h : tev X.K Wx g (o2 f2 oa ob) σ H Q) : tCB r (tRow2 (top X.K Wx g oa) (top X.K Wx g ob)) σ H Q :=
  rd_two (r := fun v u H Q => r [v, u] H Q) pr h
theorem se_b1 (hc : CallR X (.builtin id) r) (pr : PrimB X.K f r) (hg : Gl X x) (hm : X.mg x = none) (hv : bootBuiltins x = some (.builtin id)) (hn : x ≠ "__name__") (hdb : (x == ("__debug__" : Str)) = false) (ha : PE X e (top X.K Wx g oa)) (hs : isStar e = false) :
    PE X (.Call (.Name x p) [e] [] pos) (tev X.K Wx g (o1 f oa)) := (pe_callB hc hg hm hv (pa_row1 ha hs) hn hdb (starEach_of hs) rfl).mono fun _ _ _ h => row1_run pr h
theorem se_t1 (hc : CallR X (.type T) r) (pr : PrimB X.K f r) (hg : Gl X x) (hm : X.mg x = none) (hv : bootBuiltins x = some (.type T)) (hn : x ≠ "__name__") (hdb : (x == ("__debug__" : Str)) = false) (ha : PE X e (top X.K Wx g oa)) (hs : isStar e = false) :
    PE X (.Call (.Name x p) [e] [] pos) (tev X.K Wx g (o1 f oa)) := (pe_callTy hc hg hm hv (pa_row1 ha hs) hn hdb (starEach_of hs) rfl).mono fun _ _ _ h => row1_run pr h
theorem se_b2 (hc : CallR X (.builtin id) r) (pr : PrimB2 X.K f2 r) (hg : Gl X x) (hm : X.mg x = none) (hv : bootBuiltins x = some (.builtin id)) (hn : x ≠ "__name__") (hdb : (x == ("__debug__" : Str)) = false) (ha : PE X e (top X.K Wx g oa)) (hb : PE X e2 (top X.K Wx g ob)) (hs : isStar e = false) (hs2 : isStar e2 = false) :
    PE X (.Call (.Name x p) [e, e2] [] pos) (tev X.K Wx g (o2 f2 oa ob)) := (pe_callB hc hg hm hv (pa_row2 ha hb hs hs2) hn hdb (starEach_of hs) (by rw [starEach_of hs2]; rfl)).mono fun _ _ _ h => row2_run pr h
/-! ### each -/
section
variable {F : Fg}
def rLenA (F : Fg) : List V → Hp → VK → Prop := fun xs H Q => (∃ x n, xs = [x] ∧ LenV F x H n ∧ Q (.int n) H) ∨ ∃ a kvs, xs = [.ref a] ∧ Rd H a (.dK kvs) ∧ Q (.int kvs.length) H
theorem cr_lenA : CallR X (.builtin "len") (rLenA X.K) := by
  refine CallR.or call_len ?_
  intro pins s σ H xs us Q I r h
  obtain ⟨a, kvs, rfl, e, q⟩ := h
  have := Vals.ref1 r
  subst this
  exact d_len I e fun t s' I' => ⟨.int kvs.length, H, I', ⟨t, rfl⟩, q⟩
theorem pr_len : PrimB F dLen (rLenA F) := by
  intro W s σ H v d z Q r hv q k
  have seqL : ∀ {a vs} {l : List D}, SqL F H a vs → DenL F W H vs l → Ends1 F W s σ H (.int l.length) Q → rLenA F [.ref a] H Q := fun {a vs l} h dl k => .inl ⟨_, vs.length, rfl, .inl ⟨vs, h, rfl⟩, by rw [dl.length]; exact Ends1.here k r (.int _)⟩
  have seqT : ∀ {a vs} {l : List D}, SqT F H a vs → DenL F W H vs l → Ends1 F W s σ H (.int l.length) Q → rLenA F [.ref a] H Q := fun {a vs l} h dl k => .inl ⟨_, vs.length, rfl, .inr ⟨vs, h, rfl⟩, by rw [dl.length]; exact Ends1.here k r (.int _)⟩
  cases d with
  | tup l => obtain ⟨a, vs, rfl, h, dl⟩ := hv.tup; cases q; exact seqT h.sq dl k
  | frt l => obtain ⟨a, vs, rfl, h, dl⟩ := hv.frt; cases q; exact seqT h dl k
  | lst l => obtain ⟨a, vs, rfl, h, dl⟩ := hv.lst; cases q; exact seqL (SqL.of h) dl k
  | fro l => obtain ⟨a, vs, rfl, h, dl⟩ := hv.fro; cases q; exact seqL h dl k
  | str l =>
    obtain rfl := hv.str
    simp only [dLen] at q
    split at q
    · rename_i hl
      cases q
      exact .inl ⟨_, l.length, rfl, ⟨by rw [st_length]; exact hl, (st_length l).symm⟩, Ends1.here k r (.int _)⟩
    · cases q
  | dic l => obtain ⟨a, vs, rfl, h, dl⟩ := hv.dic; cases q; exact .inr ⟨a, vs, rfl, h, by rw [dl.length]; exact Ends1.here k r (.int _)⟩
  | ref n =>
    obtain ⟨a, rfl, hn⟩ := hv.ref
    simp only [dLen] at q
    cases qo : s.h[n]? with
    | none => rw [qo] at q; cases q
    | some o =>
      rw [qo] at q
      cases o with
      | dic l =>
        cases q
        obtain ⟨b, vs, eb, h, dl⟩ := (r.hp.ob hn qo).dic
        cases eb
        exact .inr ⟨a, vs, rfl, h, by rw [dl.length]; exact Ends1.here k r (.int _)⟩
      | lst l =>
        cases q
        obtain ⟨b, vs, eb, h, dl⟩ := (r.hp.ob hn qo).lst
        cases eb
        exact seqL (SqL.of h) dl k
      | dit l => cases q
  | _ => cases q
theorem pr_int : PrimB F (fun _ => dInt) (fun xs H Q => (∃ i, xs = [.int i] ∧ Q (.int i) H) ∨ ∃ k, xs = [.bl k] ∧ Q (.int (if k then 1 else 0)) H) := by
  intro W s σ H v d z Q r hv q k
  cases d with
  | int i => cases q; obtain rfl := hv.int; exact .inl ⟨i, rfl, Ends1.here k r (.int _)⟩
  | bl b => cases q; obtain rfl := hv.bl; exact .inr ⟨b, rfl, Ends1.here k r (.int _)⟩
  | _ => cases q
theorem pr_abs : PrimB F (fun _ => dAbs) (fun xs H Q => ∃ i, xs = [.int i] ∧ Q (.int (if i < 0 then -i else i)) H) := by
  intro W s σ H v d z Q r hv q k
  cases d with
  | int i => cases q; obtain rfl := hv.int; exact ⟨i, rfl, Ends1.here k r (.int _)⟩
  | _ => cases q
theorem pr_tup : PrimB F (fun _ => dTup) (fun xs H Q => ∃ p ys, xs = [.ref p] ∧ ((SqL F H p ys ∧ ∀ l, H l = none → TupAns Q H l ys) ∨ (SqT F H p ys ∧ Q (.ref p) H))) := by
  intro W s σ H v d z Q r hv q k
  cases d with
  | tup l => cases q; obtain ⟨a, vs, rfl, h, dl⟩ := hv.tup; exact ⟨a, vs, rfl, .inr ⟨h.sq, Ends1.here k r (.tup h dl)⟩⟩
  | lst l => cases q; obtain ⟨a, vs, rfl, h, dl⟩ := hv.lst; exact ⟨a, vs, rfl, .inl ⟨SqL.of h, Ends1.tup k r dl⟩⟩
  | fro l => cases q; obtain ⟨a, vs, rfl, h, dl⟩ := hv.fro; exact ⟨a, vs, rfl, .inl ⟨h, Ends1.tup k r dl⟩⟩
  | frt l =>
    cases q
    rcases hv with hv | ⟨a, _, h⟩
    · obtain ⟨a, vs, e, h, dl⟩ := DenC.frt (.inl hv)
      subst e
      exact ⟨a, vs, rfl, .inr ⟨h, Ends1.here k r hv⟩⟩
    · exact h.elim
  | _ => cases q
theorem pr_lst : PrimB F (fun _ => dLst) (fun xs H Q => ∃ p ys, xs = [.ref p] ∧ (SqL F H p ys ∨ SqT F H p ys) ∧ ∀ l, H l = none → Q (.ref l) (upd H l (.lst ys))) := by
  intro W s σ H v d z Q r hv q k
  cases d with
  | tup l => cases q; obtain ⟨a, vs, rfl, h, dl⟩ := hv.tup; exact ⟨a, vs, rfl, .inr h.sq, Ends1.lst k r dl⟩
  | frt l => cases q; obtain ⟨a, vs, rfl, h, dl⟩ := hv.frt; exact ⟨a, vs, rfl, .inr h, Ends1.lst k r dl⟩
  | lst l => cases q; obtain ⟨a, vs, rfl, h, dl⟩ := hv.lst; exact ⟨a, vs, rfl, .inl (SqL.of h), Ends1.lst k r dl⟩
  | fro l => cases q; obtain ⟨a, vs, rfl, h, dl⟩ := hv.fro; exact ⟨a, vs, rfl, .inl h, Ends1.lst k r dl⟩
  | _ => cases q
theorem DenL.bls {W : Wd} {H : Hp} : ∀ {vs : List V} {l : List D} {bs : List Bool}, DenL F W H vs l → bls? l = some bs → vs = bs.map V.bl
  | _, _, bs, .nil, e => by cases e; rfl
  | _, _, bs, @DenL.cons _ _ _ v vs d ds h r, e => by
    cases d with
    | bl b =>
      have e : (bls? ds).map (b :: ·) = some bs := e
      cases q : bls? ds with
      | none => rw [q] at e; cases e
      | some cs =>
        rw [q] at e
        cases e
        rw [h.blv, DenL.bls r q]
        rfl
    | _ => cases e
theorem DenL.intsV {W : Wd} {H : Hp} : ∀ {vs : List V} {l : List D} {bs : List Int}, DenL F W H vs l → ints? l = some bs → vs = bs.map V.int
  | _, _, bs, .nil, e => by cases e; rfl
  | _, _, bs, @DenL.cons _ _ _ v vs d ds h r, e => by
    cases d with
    | int b =>
      have e : (ints? ds).map (b :: ·) = some bs := e
      cases q : ints? ds with
      | none => rw [q] at e; cases e
      | some cs =>
        rw [q] at e
        cases e
        rw [h.intv, DenL.intsV r q]
        rfl
    | _ => cases e
theorem pr_all : PrimB F (fun _ => dAll) (rAll F) := by
  intro W s σ H v d z Q r hv q k
  cases d with
  | lst l =>
    obtain ⟨a, vs, rfl, h, dl⟩ := hv.lst
    simp only [dAll] at q
    cases qb : bls? l with
    | none => rw [qb] at q; cases q
    | some bs => rw [qb] at q; cases q; exact ⟨a, bs, rfl, dl.bls qb ▸ SqL.of h, Ends1.here k r (.bl _)⟩
  | _ => cases q
theorem pr_any : PrimB F (fun _ => dAny) (rAny F) := by
  intro W s σ H v d z Q r hv q k
  cases d with
  | lst l =>
    obtain ⟨a, vs, rfl, h, dl⟩ := hv.lst
    simp only [dAny] at q
    cases qb : bls? l with
    | none => rw [qb] at q; cases q
    | some bs => rw [qb] at q; cases q; exact ⟨a, bs, rfl, dl.bls qb ▸ SqL.of h, Ends1.here k r (.bl _)⟩
  | _ => cases q
theorem pr_sum : PrimB F (fun _ => dSum) (rSum F) := by
  intro W s σ H v d z Q r hv q k
  cases d with
  | lst l =>
    obtain ⟨a, vs, rfl, h, dl⟩ := hv.lst
    simp only [dSum] at q
    cases qb : ints? l with
    | none => rw [qb] at q; cases q
    | some bs => rw [qb] at q; cases q; exact ⟨a, bs, rfl, dl.intsV qb ▸ SqL.of h, Ends1.here k r (.int _)⟩
  | _ => cases q
theorem fold_max : ∀ (l : List Int) (x m : Int), (∀ y ∈ x :: l, y ≤ m) → m ∈ x :: l → l.foldl max x = m
  | [], x, m, h, hm => by
    rcases List.mem_cons.mp hm with e | e
    · exact e.symm
    · cases e
  | y :: l, x, m, h, hm => by
    have hx := h x (by simp)
    have hy := h y (by simp)
    refine fold_max l (max x y) m (fun z hz => ?_) ?_
    · rcases List.mem_cons.mp hz with e | e
      · rw [e]; omega
      · exact h z (by simp [e])
    · rcases List.mem_cons.mp hm with e | e
      · exact List.mem_cons.mpr (.inl (by omega))
      · rcases List.mem_cons.mp e with e | e
        · exact List.mem_cons.mpr (.inl (by omega))
        · exact List.mem_cons.mpr (.inr e)
theorem fold_min : ∀ (l : List Int) (x m : Int), (∀ y ∈ x :: l, m ≤ y) → m ∈ x :: l → l.foldl min x = m
  | [], x, m, h, hm => by
    rcases List.mem_cons.mp hm with e | e
    · exact e.symm
    · cases e
  | y :: l, x, m, h, hm => by
    have hx := h x (by simp)
    have hy := h y (by simp)
    refine fold_min l (min x y) m (fun z hz => ?_) ?_
    · rcases List.mem_cons.mp hz with e | e
      · rw [e]; omega
      · exact h z (by simp [e])
    · rcases List.mem_cons.mp hm with e | e
      · exact List.mem_cons.mpr (.inl (by omega))
      · rcases List.mem_cons.mp e with e | e
        · exact List.mem_cons.mpr (.inl (by omega))
        · exact List.mem_cons.mpr (.inr e)
theorem pr_max : PrimB F (fun _ => dMax) (rMax F) := by
  intro W s σ H v d z Q r hv q k
  cases d with
  | lst l =>
    obtain ⟨a, vs, rfl, h, dl⟩ := hv.lst
    simp only [dMax] at q
    cases qb : ints? l with
    | none => rw [qb] at q; cases q
    | some bs =>
      rw [qb] at q
      cases bs with
      | nil => cases q
      | cons x bs =>
        cases q
        exact ⟨a, x :: bs, rfl, dl.intsV qb ▸ SqL.of h, by simp, fun m hm hle => fold_max bs x m hle hm ▸ Ends1.here k r (.int _)⟩
  | _ => cases q
theorem pr_min : PrimB F (fun _ => dMin) (rMin F) := by
  intro W s σ H v d z Q r hv q k
  cases d with
  | lst l =>
    obtain ⟨a, vs, rfl, h, dl⟩ := hv.lst
    simp only [dMin] at q
    cases qb : ints? l with
    | none => rw [qb] at q; cases q
    | some bs =>
      rw [qb] at q
      cases bs with
      | nil => cases q
      | cons x bs =>
        cases q
        exact ⟨a, x :: bs, rfl, dl.intsV qb ▸ SqL.of h, by simp, fun m hm hle => fold_min bs x m hle hm ▸ Ends1.here k r (.int _)⟩
  | _ => cases q
theorem pr_max2 : PrimB2 F (fun _ => dMax2) (fun xs H Q => ∃ i j, xs = [.int i, .int j] ∧ Q (.int (if j > i then j else i)) H) := by
  intro W s σ H v u d e z Q r hv hu q k
  cases d with
  | int i =>
    cases e with
    | int j => cases q; obtain rfl := hv.int; obtain rfl := hu.int; exact ⟨i, j, rfl, Ends1.here k r (.int _)⟩
    | _ => cases q
  | _ => cases q
theorem pr_min2 : PrimB2 F (fun _ => dMin2) (fun xs H Q => ∃ i j, xs = [.int i, .int j] ∧ Q (.int (if j < i then j else i)) H) := by
  intro W s σ H v u d e z Q r hv hu q k
  cases d with
  | int i =>
    cases e with
    | int j => cases q; obtain rfl := hv.int; obtain rfl := hu.int; exact ⟨i, j, rfl, Ends1.here k r (.int _)⟩
    | _ => cases q
  | _ => cases q
end
end
theorem fr_lst {F : Fg} : FrB1 F (fun _ => dLst) (fun v H Q => ∃ p ys, [v] = [V.ref p] ∧ (SqL F H p ys ∨ SqT F H p ys) ∧ ∀ l, H l = none → Q (.ref l) (upd H l (.lst ys))) := by
  intro W s σ H v d z Q r hv q k
  cases d with
  | tup l => cases q; obtain ⟨a, vs, rfl, h, dl⟩ := hv.tup; exact ⟨a, vs, rfl, .inr h.sq, fun p hp => k p _ hp ⟨_, upd_same, dl.stab (r.stab_new hp)⟩⟩
  | frt l => cases q; obtain ⟨a, vs, rfl, h, dl⟩ := hv.frt; exact ⟨a, vs, rfl, .inr h, fun p hp => k p _ hp ⟨_, upd_same, dl.stab (r.stab_new hp)⟩⟩
  | lst l => cases q; obtain ⟨a, vs, rfl, h, dl⟩ := hv.lst; exact ⟨a, vs, rfl, .inl (SqL.of h), fun p hp => k p _ hp ⟨_, upd_same, dl.stab (r.stab_new hp)⟩⟩
  | fro l => cases q; obtain ⟨a, vs, rfl, h, dl⟩ := hv.fro; exact ⟨a, vs, rfl, .inl h, fun p hp => k p _ hp ⟨_, upd_same, dl.stab (r.stab_new hp)⟩⟩
  | _ => cases q
theorem sf_list {X : Cx} {Wx : WX} {g : G} {p pos : Pos} {e : Expr} {oa : Op} (hg : Gl X "list") (hm : X.mg "list" = none) (ha : PE X e (top X.K Wx g oa)) (hs : isStar e = false) : PE X (.Call (.Name "list" p) [e] [] pos) (tfr X.K Wx g (o1 (fun _ => dLst) oa)) :=
  (pe_callTy call_list_of hg hm (by decide +kernel) (pa_row1 ha hs) (by decide) (by decide) (starEach_of hs) rfl).mono fun _ _ _ h => fr_one fr_lst h
/-! ### isinstance -/
def Tn.name : Tn → String
  | .int => "int"
  | .bool => "bool"
  | .str => "str"
  | .tup => "tuple"
  | .lst => "list"
  | .dic => "dict"
def kitT (a : String) (t : Tn) (b : Bool) : Prop := kitB a t.name = some b
theorem kit_non (t : Tn) : kitB "NoneType" t.name = some false := by cases t <;> decide +kernel
theorem kit_bl (t : Tn) : kitB "bool" t.name = some (match t with | .int => true | .bool => true | _ => false) := by cases t <;> decide +kernel
theorem kit_int (t : Tn) : kitB "int" t.name = some (match t with | .int => true | _ => false) := by cases t <;> decide +kernel
theorem kit_str (t : Tn) : kitB "str" t.name = some (match t with | .str => true | _ => false) := by cases t <;> decide +kernel
theorem kit_tup (t : Tn) : kitB "tuple" t.name = some (match t with | .tup => true | _ => false) := by cases t <;> decide +kernel
theorem kit_lst (t : Tn) : kitB "list" t.name = some (match t with | .lst => true | _ => false) := by cases t <;> decide +kernel
theorem kit_dic (t : Tn) : kitB "dict" t.name = some (match t with | .dic => true | _ => false) := by cases t <;> decide +kernel
theorem tyx_L {F : Fg} {H : Hp} {a : Addr} {vs : List V} (h : SqL F H a vs) : TyX F H (.ref a) (.type "list") := by
  rcases h with (h | ⟨o, h⟩) | ⟨o, its, n, e, c, _⟩
  · exact .base (.lst h)
  · exact .base (.frz h)
  · exact .kList e c
theorem tyx_T {F : Fg} {H : Hp} {a : Addr} {vs : List V} (h : SqT F H a vs) : TyX F H (.ref a) (.type "tuple") := by
  rcases h with (h | ⟨o, h⟩) | ⟨o, its, n, e, c, _⟩
  · exact .base (.tup h)
  · exact .fTuple h
  · exact .kTuple e c
theorem pr_isTy {F : Fg} {W : Wd} {s : S} {σ : St} {H : Hp} {v : V} {d z : D} {Q : VK} {t : Tn} (r : Rel F W s σ H) (hv : DenC F W H v d) (q : isTy t s.h d = some z) (k : Ends1 F W s σ H z Q) : rIsi F [v, .ty t.name] H Q := by
  have main : ∀ {T : String} {b : Bool} {v : V}, kitB T t.name = some b → TyX F H v (.type T) → Ends1 F W s σ H (.bl b) Q → rIsi F [v, .ty t.name] H Q := fun {T b v} e ty k => ⟨v, .ty t.name, .type T, .type t.name, b, rfl, .ty _, ty, kit_ty e, Ends1.here k r (.bl b)⟩
  cases d with
  | non => cases q; obtain rfl := hv.non; exact main (kit_non t) (.base .non) k
  | bl b => cases q; obtain rfl := hv.bl; exact main (kit_bl t) (.base (.bl b)) k
  | int b => cases q; obtain rfl := hv.int; exact main (kit_int t) (.base (.int b)) k
  | str b => cases q; obtain rfl := hv.str; exact main (kit_str t) (.base (.str _)) k
  | rep b => cases q; obtain rfl := hv.repV; exact main (kit_str t) (.base (.str _)) k
  | tup l => cases q; obtain ⟨a, vs, rfl, h, _⟩ := hv.tup; exact main (kit_tup t) (tyx_T h.sq) k
  | frt l => cases q; obtain ⟨a, vs, rfl, h, _⟩ := hv.frt; exact main (kit_tup t) (tyx_T h) k
  | lst l => cases q; obtain ⟨a, vs, rfl, h, _⟩ := hv.lst; exact main (kit_lst t) (.base (.lst h)) k
  | fro l => cases q; obtain ⟨a, vs, rfl, h, _⟩ := hv.fro; exact main (kit_lst t) (tyx_L h) k
  | dic l =>
    cases q
    obtain ⟨a, vs, rfl, h, _⟩ := hv.dic
    rcases h with h | ⟨o, h⟩
    · exact main (kit_dic t) (.base (.dK h)) k
    · exact main (kit_dic t) (.fDict h) k
  | dit l => cases q
  | ref n =>
    obtain ⟨a, rfl, hn⟩ := hv.ref
    simp only [isTy] at q
    cases qo : s.h[n]? with
    | none => rw [qo] at q; cases q
    | some o =>
      rw [qo] at q
      obtain ⟨_, o', q', w⟩ := r.hp.refs n a hn
      rw [qo] at q'; cases q'
      cases o with
      | lst l => cases q; obtain ⟨vs, h, _⟩ := w; exact main (kit_lst t) (.base (.lst h)) k
      | dic l => cases q; obtain ⟨vs, h, _⟩ := w; exact main (kit_dic t) (.base (.dK h)) k
      | dit l => cases q; obtain ⟨vs, h, _⟩ := w; exact main (kit_dic t) (.base (.dT h)) k
section
variable {X : Cx} {Wx : WX} {g : G} {p p2 pos : Pos} {e : Expr} {oa : Op} {t : Tn}
def tnStr : Tn → Str
  | .int => "int"
  | .bool => "bool"
  | .str => "str"
  | .tup => "tuple"
  | .lst => "list"
  | .dic => "dict"
theorem se_isi (hg : Gl X "isinstance") (hm : X.mg "isinstance" = none) (hg2 : Gl X (tnStr t)) (hm2 : X.mg (tnStr t) = none) (ha : PE X e (top X.K Wx g oa)) (hs : isStar e = false) :
    PE X (.Call (.Name "isinstance" p) [e, .Name (tnStr t) p2] [] pos) (tev X.K Wx g (o1 (isTy t) oa)) := by
  have hty : PE X (.Name (tnStr t) p2) (tC (.ty t.name)) := by
    cases t <;> exact pe_bltn hg2 hm2 (by decide +kernel) (show RelV (.ty _) (.type _) from rfl)
  refine (pe_callB call_isi hg hm (by decide +kernel) (pa_row2 ha hty hs rfl) (by decide) (by decide) (starEach_of hs) rfl).mono fun σ H Q h => ?_
  exact rd_one (r := fun v H Q => rIsi X.K [v, .ty t.name] H Q) (fun W s σ H v d z Q r hv q k => pr_isTy r hv q k) h
end
end Cy

set_option Elab.async false
set_option linter.all false
set_option maxRecDepth 100000
/-! How a call's values are bound: a def with plain parameters (and defaults), by position and by name. -/
namespace Cy
open L2 PySem PySem.Spec PyProof.Rows

section
variable {α β : Type}
def fillStep (st : List (Str × α)) (x : Str × α) : List (Str × α) := if (st.lookup x.1).isNone then st ++ [x] else st
def slotsOf (normal : List Str) (us : List α) (kw : List (Str × α)) (dfl : List α) : List (Str × α) :=
  ((normal.drop (normal.length - dfl.length)).zip dfl).foldl fillStep (normal.zip us ++ kw)
def onV (f : α → β) (x : Str × α) : Str × β := (x.1, f x.2)
theorem lookup_map (f : α → β) (k : Str) : ∀ l : List (Str × α), (l.map (onV f)).lookup k = (l.lookup k).map f
  | [] => rfl
  | (n, v) :: r => by
    rw [List.map_cons, List.lookup_cons]
    show (match k == n with | true => some (f v) | false => (r.map (onV f)).lookup k) = _
    rw [List.lookup_cons]
    cases k == n with
    | true => rfl
    | false => exact lookup_map f k r
theorem fill_map (f : α → β) (st : List (Str × α)) (x : Str × α) : (fillStep st x).map (onV f) = fillStep (st.map (onV f)) (onV f x) := by
  unfold fillStep
  rw [show (onV f x).1 = x.1 from rfl, lookup_map]
  cases st.lookup x.1 with
  | none => simp
  | some v => simp
theorem fold_map (f : α → β) : ∀ (l st : List (Str × α)), (l.foldl fillStep st).map (onV f) = (l.map (onV f)).foldl fillStep (st.map (onV f))
  | [], st => rfl
  | x :: r, st => by
    rw [List.foldl_cons, fold_map f r, List.map_cons, List.foldl_cons, fill_map]
theorem zip_onV (f : α → β) : ∀ (ns : List Str) (vs : List α), (ns.zip vs).map (onV f) = ns.zip (vs.map f)
  | [], _ => rfl
  | _ :: _, [] => rfl
  | n :: ns, v :: vs => by
    rw [List.zip_cons_cons, List.map_cons, zip_onV f ns vs, List.map_cons, List.zip_cons_cons]; rfl
theorem slots_map (f : α → β) (normal : List Str) (us : List α) (kw : List (Str × α)) (dfl : List α) : (slotsOf normal us kw dfl).map (onV f) = slotsOf normal (us.map f) (kw.map (onV f)) (dfl.map f) := by
  unfold slotsOf
  rw [fold_map, zip_onV, List.map_append, zip_onV, List.length_map]
end
/-- the places, by position and by name, of n positional and the named ks; m defaults -/
abbrev Sy := Sum Nat Nat
def syU (n : Nat) : List Sy := (List.range n).map Sum.inl
def syK (n : Nat) (ks : List Str) : List (Str × Sy) := ks.zip ((List.range ks.length).map fun i => Sum.inl (n + i))
def syD (m : Nat) : List Sy := (List.range m).map Sum.inr
def bindOk (normal : List Str) (n : Nat) (ks : List Str) (m : Nat) : Bool :=
  ks.all (fun k => normal.contains k && !((normal.take n).contains k)) && decide ks.Nodup && decide (n ≤ normal.length) && decide (m ≤ normal.length) && (normal.take (normal.length - m)).all fun x => ((normal.zip (syU n) ++ syK n ks).lookup x).isSome
def bindS (normal : List Str) (n : Nat) (ks : List Str) (m : Nat) : Option (List Sy) :=
  if bindOk normal n ks m then normal.mapM fun x => (slotsOf normal (syU n) (syK n ks) (syD m)).lookup x else none
def valS (us its : List Value) : Sy → Value
  | .inl i => us.getD i .none
  | .inr j => its.getD j .none

/-! the two loops -/
theorem kw_loop {α : Type} (normal : List Str) (f : Str × α → List (Str × α) × List (Str × α) → Sem (ForInStep (List (Str × α) × List (Str × α))))
    (hf : ∀ x st, normal.contains x.1 = true → (st.1.lookup x.1).isSome = false → f x st = pure (.yield (st.1 ++ [(x.1, x.2)], st.2))) : ∀ (kw slots : List (Str × α)), (∀ q ∈ kw, normal.contains q.1 = true) → (∀ q ∈ kw, slots.lookup q.1 = none) → (kw.map (·.1)).Nodup →
    forIn kw (slots, ([] : List (Str × α))) f = pure (slots ++ kw, [])
  | [], slots, _, _, _ => by rw [List.forIn_nil, List.append_nil]
  | q :: kw, slots, h1, h2, h3 => by
    rw [List.map_cons, List.nodup_cons] at h3
    rw [List.forIn_cons, hf q _ (h1 q (by simp)) (by rw [h2 q (by simp)]; rfl), pure_bind]
    show forIn kw (slots ++ [q], ([] : List (Str × α))) f = _
    rw [kw_loop normal f hf kw (slots ++ [q]) (fun p hp => h1 p (by simp [hp])) (fun p hp => ?_) h3.2]
    · rw [List.append_assoc]; rfl
    · have h := h2 p (by simp [hp])
      have ne : (p.1 == q.1) = false := by
        rw [beq_eq_false_iff_ne]
        exact fun e => h3.1 (e ▸ List.mem_map_of_mem hp)
      rw [List.lookup_append, h, Option.none_or, List.lookup_cons, ne]
      rfl
theorem dfl_loop {α : Type} (f : Str × α → List (Str × α) → Sem (ForInStep (List (Str × α)))) (hf : ∀ x st, f x st = pure (.yield (fillStep st x))) : ∀ (l st : List (Str × α)), forIn l st f = pure (l.foldl fillStep st)
  | [], st => List.forIn_nil
  | x :: l, st => by
    rw [List.forIn_cons, hf, pure_bind]
    exact dfl_loop f hf l _
theorem bind_row {x qual : Str} {params : Arguments} {body : List Stmt} {scope : Scope} {dV kV doc pm : Value} {an : Option Addr} {cdv ct : Value} {us : List Value} {kw : List (Str × Value)} (h1 : params.posonlyargs = []) (h2 : params.kwonlyargs = []) (h3 : params.vararg = none) (h4 : params.kwarg = none)
    (a1 : ∀ q ∈ kw, (params.args.map (·.arg)).contains q.1 = true) (a2 : ∀ q ∈ kw, ((params.args.map (·.arg)).zip us).lookup q.1 = none) (a3 : (kw.map (·.1)).Nodup) (a4 : us.length ≤ params.args.length) :
    ∃ k, bindArgs (PySem.W.fnOf x qual params body scope dV kV doc pm an cdv ct) ⟨us, kw⟩ = seqItems? dV >>= k ∧
      ∀ its : Array Value, its.size ≤ params.args.length → (∀ n ∈ (params.args.map (·.arg)).take (params.args.length - its.size), (((params.args.map (·.arg)).zip us ++ kw).lookup n).isSome = true) → ∀ o : Option (Array Value), o.getD #[] = its →
        k o = pure ((params.args.map (·.arg)).filterMap fun n => ((slotsOf (params.args.map (·.arg)) us kw its.toList).lookup n).map (n, ·)) := by
  generalize hn : params.args.map (·.arg) = normal at a1 a2 ⊢
  have hl : params.args.length = normal.length := by rw [← hn, List.length_map]
  rw [hl] at a4 ⊢
  unfold bindArgs
  simp only [PySem.W.fnOf, h1, h2, h3, h4, hn, List.map_nil, List.nil_append, List.append_nil]
  rw [kw_loop normal _ (fun y st c1 c2 => by simp only [c1, Bool.true_or, if_true, c2, Bool.false_eq_true, if_false]) kw (normal.zip us) a1 a2 a3, pure_bind]
  refine ⟨_, rfl, fun its z1 z2 o ho => ?_⟩
  simp only [ho]
  have d0 : its.toList.drop (its.toList.length - normal.length) = its.toList := by
    rw [show its.toList.length - normal.length = 0 by rw [Array.length_toList]; omega, List.drop_zero]
  have c1 : ¬ ((decide (us.length > normal.length) && Option.isNone (none : Option Arg)) = true) := by
    rw [Bool.and_eq_true, decide_eq_true_eq]
    omega
  have c2 : (normal.take (normal.length - its.toList.length)).filter (fun n => ((normal.zip us ++ kw).lookup n).isNone) = [] := by
    rw [List.filter_eq_nil_iff]
    intro n hn'
    have := z2 n (by rw [Array.length_toList] at hn'; exact hn')
    cases q : (normal.zip us ++ kw).lookup n with
    | none => rw [q] at this; cases this
    | some v => simp
  rw [if_neg c1]
  simp only [d0, c2, List.isEmpty_nil, Bool.not_true, Bool.false_eq_true, if_false]
  rw [dfl_loop _ (fun y st => by
    unfold fillStep
    split <;> rfl), pure_bind]
  rfl
theorem mapM_filterMap {α : Type} {g : Str → Option α} : ∀ {ns : List Str} {vs : List α}, ns.mapM g = some vs → ns.filterMap (fun n => (g n).map (n, ·)) = ns.zip vs
  | [], vs, h => by cases h; rfl
  | n :: ns, vs, h => by
    rw [List.mapM_cons] at h
    cases q : g n with
    | none => rw [q] at h; cases h
    | some v =>
      rw [q] at h
      cases q2 : ns.mapM g with
      | none => rw [q2] at h; cases h
      | some ws =>
        rw [q2] at h
        cases h
        rw [List.filterMap_cons, q, Option.map_some, mapM_filterMap q2]
        rfl
theorem mapM_map {α β : Type} (f : α → β) {g : Str → Option α} {g' : Str → Option β} (e : ∀ n, g' n = (g n).map f) : ∀ {ns : List Str} {vs : List α}, ns.mapM g = some vs → ns.mapM g' = some (vs.map f)
  | [], vs, h => by cases h; rfl
  | n :: ns, vs, h => by
    rw [List.mapM_cons] at h
    cases q : g n with
    | none => rw [q] at h; cases h
    | some v =>
      rw [q] at h
      cases q2 : ns.mapM g with
      | none => rw [q2] at h; cases h
      | some ws =>
        rw [q2] at h
        cases h
        rw [List.mapM_cons, e n, q, mapM_map f e q2]
        rfl
theorem syU_val {us its : List Value} {n : Nat} (h : n ≤ us.length) : (syU n).map (valS us its) = us.take n := by
  unfold syU
  apply List.ext_getElem?
  intro i
  rw [List.map_map, List.getElem?_map, List.getElem?_take]
  by_cases z : i < n
  · rw [if_pos z, List.getElem?_range z, Option.map_some]
    show some (us.getD i .none) = _
    rw [List.getD_eq_getElem?_getD, List.getElem?_eq_getElem (by omega), Option.getD_some]
  · rw [if_neg z, List.getElem?_eq_none (by simpa using z)]
    rfl
theorem syK_val {us its : List Value} {n : Nat} {ks : List Str} (h : us.length = n + ks.length) : (syK n ks).map (onV (valS us its)) = ks.zip (us.drop n) := by
  unfold syK
  rw [zip_onV, List.map_map]
  congr 1
  apply List.ext_getElem?
  intro i
  rw [List.getElem?_map, List.getElem?_drop]
  by_cases z : i < ks.length
  · rw [List.getElem?_range z, Option.map_some]
    show some (us.getD (n + i) .none) = _
    rw [List.getD_eq_getElem?_getD, List.getElem?_eq_getElem (by omega), Option.getD_some]
  · rw [List.getElem?_eq_none (by simpa using z), List.getElem?_eq_none (by omega)]
    rfl
theorem syD_val {us its : List Value} : (syD its.length).map (valS us its) = its := by
  unfold syD
  rw [List.map_map]
  apply List.ext_getElem?
  intro i
  rw [List.getElem?_map]
  by_cases z : i < its.length
  · rw [List.getElem?_range z, Option.map_some]
    show some (its.getD i .none) = _
    rw [List.getD_eq_getElem?_getD, List.getElem?_eq_getElem z, Option.getD_some]
  · rw [List.getElem?_eq_none (by simpa using z), List.getElem?_eq_none (by omega)]
    rfl
theorem keys_zip {α : Type} : ∀ {ks : List Str} {vs : List α}, vs.length = ks.length → (ks.zip vs).map (·.1) = ks
  | [], [], _ => rfl
  | k :: ks, v :: vs, h => by rw [List.zip_cons_cons, List.map_cons, keys_zip (by simpa using h)]
  | [], _ :: _, h => by cases h
  | _ :: _, [], h => by cases h
theorem lookup_zip_none {α : Type} {k : Str} : ∀ {ns : List Str} {vs : List α}, k ∉ ns.take vs.length → (ns.zip vs).lookup k = none
  | [], _, _ => rfl
  | _ :: _, [], _ => rfl
  | n :: ns, v :: vs, h => by
    rw [List.length_cons, List.take_succ_cons, List.mem_cons, not_or] at h
    have : (k == n) = false := beq_eq_false_iff_ne.mpr h.1
    rw [List.zip_cons_cons, List.lookup_cons, this]
    exact lookup_zip_none h.2
/-- how a call binds: n positional values, those of the names ks -/
structure BindG (K : PySem.W.Frag) (fd : FuncData) (ps : List Str) (n : Nat) (ks : List Str) (p : List Sy) (its : List Value) : Prop where
  to : ∀ (s : Shared) (us : List Value), K.In s.heap → us.length = n + ks.length → BindsTo s fd ⟨us.take n, ks.zip (us.drop n)⟩ (ps.zip (p.map (valS us its)))
theorem bind_all {K : PySem.W.Frag} {x qual : Str} {params : Arguments} {body : List Stmt} {scope : Scope} {dvs : List V} {f : Addr} {fd : FuncData} {n : Nat} {ks : List Str} {p : List Sy} (F : FunD K x qual params body scope dvs [] f fd)
    (h1 : params.posonlyargs = []) (h2 : params.kwonlyargs = []) (h3 : params.vararg = none) (h4 : params.kwarg = none) (hp : bindS (params.args.map (·.arg)) n ks dvs.length = some p) :
    ∃ its : List Value, Vals dvs its ∧ BindG K fd (params.args.map (·.arg)) n ks p its := by
  obtain ⟨oc, od, dV, kV, doc, pm, an, cdv, ct, osl, rfl, lk, hcd, hD, hK⟩ := F.ex
  unfold bindS at hp
  cases hok : bindOk (params.args.map (·.arg)) n ks dvs.length with
  | false => rw [hok] at hp; cases hp
  | true =>
    rw [hok, if_pos rfl] at hp
    unfold bindOk at hok
    simp only [Bool.and_eq_true, List.all_eq_true, decide_eq_true_eq, Bool.not_eq_true'] at hok
    obtain ⟨⟨⟨⟨o1, o2⟩, o3⟩, o4⟩, o5⟩ := hok
    have main : ∀ (its : List Value) (o : Option (Array Value)), its.length = dvs.length → o.getD #[] = its.toArray → ∀ us : List Value, us.length = n + ks.length →
        ∃ k, bindArgs (PySem.W.fnOf x qual params body scope dV kV doc pm an cdv ct) ⟨us.take n, ks.zip (us.drop n)⟩ = seqItems? dV >>= k ∧ k o = pure ((params.args.map (·.arg)).zip (p.map (valS us its))) := by
      intro its o hl ho us hu
      have hpa : (params.args.map (·.arg)).length = params.args.length := List.length_map ..
      have e1 : (params.args.map (·.arg)).zip (us.take n) = ((params.args.map (·.arg)).zip (syU n)).map (onV (valS us its)) := by rw [zip_onV, syU_val (by omega)]
      have e2 := (syK_val (us := us) (its := its) hu).symm
      have lt : (us.take n).length = n := by rw [List.length_take]; omega
      obtain ⟨k, b1, b2⟩ := bind_row (x := x) (qual := qual) (body := body) (scope := scope) (dV := dV) (kV := kV) (doc := doc) (pm := pm) (an := an) (cdv := cdv) (ct := ct) (us := us.take n) (kw := ks.zip (us.drop n)) h1 h2 h3 h4
        (fun q hq => (o1 q.1 (List.of_mem_zip hq).1).1) (fun q hq => lookup_zip_none (by
          rw [lt]
          have := (o1 q.1 (List.of_mem_zip hq).1).2
          intro hm
          rw [List.contains_eq_mem, decide_eq_false_iff_not] at this
          exact this hm)) (by rw [keys_zip (by rw [List.length_drop]; omega)]; exact o2) (by rw [lt]; omega)
      refine ⟨k, b1, ?_⟩
      rw [b2 its.toArray (by rw [List.size_toArray]; omega) (fun m hm => ?_) o ho]
      · congr 1
        refine mapM_filterMap ?_
        refine mapM_map (valS us its) (fun m => ?_) hp
        have : slotsOf (params.args.map (·.arg)) (us.take n) (ks.zip (us.drop n)) its = (slotsOf (params.args.map (·.arg)) (syU n) (syK n ks) (syD dvs.length)).map (onV (valS us its)) := by
          rw [slots_map, syU_val (by omega), syK_val hu, ← hl, syD_val]
        rw [this, lookup_map]
      · have := o5 m (by rw [hpa, ← hl]; rw [List.size_toArray] at hm; exact hm)
        rw [e1, e2, ← List.map_append, lookup_map]
        cases q : ((params.args.map (·.arg)).zip (syU n) ++ syK n ks).lookup m with
        | none => rw [q] at this; cases this
        | some v => rfl
    rcases hD with ⟨e1, e2⟩ | ⟨_, T, o, its, m, e, lT, oT, rT⟩
    · subst e1 e2
      refine ⟨[], .nil, ⟨fun s us X hu => ?_⟩⟩
      obtain ⟨k, b1, b2⟩ := main [] none rfl rfl us hu
      exact .of_eq (b1.trans b2)
    · subst e
      refine ⟨its, rT, ⟨fun s us X hu => ?_⟩⟩
      obtain ⟨k, b1, b2⟩ := main its (some its.toArray) rT.length.symm rfl us hu
      exact BindsTo.of_looks fun M => by
        rw [b1]
        exact looks_items X lT oT (.of_pure b2)
end Cy

set_option Elab.async false
set_option linter.all false
set_option maxRecDepth 100000
/-! Cy over the hand layer: defs, calls of defs. -/
namespace Cy
open L2 PySem PySem.Spec PyProof.Rows

/-- a def's promise, where no guard stands -/
structure FnG (P : Program) (w : World) (K : PySem.W.Frag) (mg : Str → Option Value) (base : Heap) (C : CXT) (n : Nat) (fa : Addr) (fd : FuncData) (ps : List Str) (sp : Sp) : Prop where
  ln : ∀ vs H Q E, sp vs H Q E → vs.length = ps.length
  go : ∀ (A : Around) (fs : List Env) (t : Shared) (H : Hp) (as : Args) (bs : List Value) (vs : List V) (Q : VK) (E : XK), Room n A → A.guards = some [] → Env0 P w K mg base A fs t H → BindsTo t fd as (ps.zip bs) → Vals vs bs → sp vs H Q E →
    codeAny (model P w) A (.call (.ref fa) as) (L2.CR C fs P w H t Q E) t
/-- by its body -/
theorem FnG.of {C : CXT} {P : Program} {w : World} {K : PySem.W.Frag} {mg : Str → Option Value} {base : Heap} {n : Nat} {fa : Addr} {nm qual : Str} {ars : Arguments} {body : List Stmt} {sc : Scope} {fd : FuncData} {dvs : List V} {kvs : List (Str × V)} {N ps : List Str} {sp : Sp}
    (F : FunD K nm qual ars body sc dvs kvs fa fd) (S : FnScope N ps sc) (ln : ∀ vs H Q E, sp vs H Q E → vs.length = ps.length)
    (hb : ∀ (cd : Value) (A : Around) (fs : List Env) (t : Shared) (H : Hp) (vs : List V) (Q : VK) (E : XK), Room n (A.deeper (envOfC qual sc t.heap.objs.size fa cd)) → A.guards = some [] → sp vs H Q E →
      ∃ tb, PSs (cxOf C P w K mg base N qual sc fa cd A fs t H E) body tb ∧ tb { nx := fun _ H' => Q .non H', rt := Q } (L2.start N vs) H) : FnG P w K mg base C (n + 1) fa fd ps sp := by
  obtain ⟨oc, od, dV, kV, doc, pm, an, cd, ct, osl, efd, lk, hcd, _, _⟩ := F.ex
  subst efd
  refine ⟨ln, fun A fs t H as bs vs Q E room gd en bd rl spx => ?_⟩
  have hlen := ln _ _ _ _ spx
  have kin : K.In t.heap := en.mod.kin.keeps fun b ob eb => (en.bs b ob eb).1
  have nolim : t.heap.NoLimit := en.mod.nolimit.keeps fun b ob eb => (en.bs b ob eb).1
  have kinds : ∀ y ∈ ps.zip bs, sc.names.lookup y.1 = some .local ∨ (sc.names.lookup y.1 = some .cell ∧ ((cellsFrom (t.heap.objs.size + 1) sc.names []).lookup y.1).isSome = true) := fun y hy => by
    have par := S.par y.1 (List.of_mem_zip (show (y.1, y.2) ∈ ps.zip bs from hy)).1
    exact par.elim .inl fun q => .inr ⟨q, PySem.W.cellsFrom_some _ _ _ (.inl q)⟩
  refine codeAny_call_function room.depth (kin _ _ lk) rfl S.co S.gen rfl (PySem.W.codeRec_of kin hcd) (bd _ _ _ _ (wpAny_newFunctionEnv_cells S.kind kinds fun ev hev t1 ic => ?_))
  subst hev
  refine ⟨nolim.keeps ic.toInCall.keep, codeAny_func ?_⟩
  obtain ⟨tb, hps, htb⟩ := hb cd A fs t H vs Q E (room.deeper _) gd spx
  have inv : L2.Inv (cxOf C P w K mg base N qual sc fa cd A fs t H E) [] (L2.start N vs) H t1 := inv_start S room.hd en hlen rl ic
  refine wpAny_mono (hps.run [] t1 (L2.start N vs) H _ inv htb) (fun fl t2 h2 => ?_) fun ex t2 h2 => h2
  have ends : ∀ {σ2 : L2.St} {H2 : Hp} {v2 : V} {u2 : Value}, L2.Inv (cxOf C P w K mg base N qual sc fa cd A fs t H E) [] σ2 H2 t2 → RelV v2 u2 → Q v2 H2 → CE fs P w H t Q u2 t2 :=
    fun {σ2 H2 v2 u2} J rv q => ⟨v2, H2, J.os, J.bare, J.base, J.hok, rv, q⟩
  cases fl with
  | next => obtain ⟨_, H2, J, q⟩ := h2; exact ends (v2 := V.non) (u2 := Value.none) J rfl q
  | ret u2 => obtain ⟨v2, _, H2, J, rv, q⟩ := h2; exact ends J rv q
  | brk => obtain ⟨_, _, _, q⟩ := h2; exact q.elim
  | cont => obtain ⟨_, _, _, q⟩ := h2; exact q.elim

/-! ### the values in the parameters' order -/
def valV (vs dvs : List V) : Sy → V
  | .inl i => vs.getD i .non
  | .inr j => dvs.getD j .non
theorem vals_getD {vs : List V} {us : List Value} (r : Vals vs us) (i : Nat) : RelV (vs.getD i .non) (us.getD i .none) := by
  rw [List.getD_eq_getElem?_getD, List.getD_eq_getElem?_getD]
  cases q : vs[i]? with
  | none =>
    have : us[i]? = none := by
      rw [List.getElem?_eq_none_iff] at q ⊢
      rw [← r.length]; exact q
    rw [this]
    rfl
  | some v =>
    obtain ⟨u, e, ru⟩ := r.get q
    rw [e]
    exact ru
theorem vals_sy {vs dvs : List V} {us its : List Value} (r : Vals vs us) (d : Vals dvs its) : ∀ p : List Sy, Vals (p.map (valV vs dvs)) (p.map (valS us its))
  | [] => .nil
  | .inl i :: p => .cons (vals_getD r i) (vals_sy r d p)
  | .inr j :: p => .cons (vals_getD d j) (vals_sy r d p)
def arrS (dfl : List D) : Sy → Sum Nat D
  | .inl i => .inl i
  | .inr j => .inr (dfl.getD j .non)
theorem den_getD {F : Fg} {W : Wd} {H : Hp} {vs : List V} {ds : List D} (h : DenL F W H vs ds) (i : Nat) : Den F W H (vs.getD i .non) (ds.getD i .non) := by
  rw [List.getD_eq_getElem?_getD, List.getD_eq_getElem?_getD]
  cases q : ds[i]? with
  | none =>
    have : vs[i]? = none := by
      rw [List.getElem?_eq_none_iff] at q ⊢
      rw [h.length]; exact q
    rw [this]
    exact .non
  | some d =>
    obtain ⟨v, e, dv⟩ := h.get q
    rw [e]
    exact dv
theorem den_arr {F : Fg} {W : Wd} {H : Hp} {vs dvs : List V} {ds dfl : List D} (h : DenL F W H vs ds) (hd : DenL F W H dvs dfl) : ∀ {p : List Sy} {es : List D}, arrange (p.map (arrS dfl)) ds = some es → DenL F W H (p.map (valV vs dvs)) es
  | [], es, e => by cases e; exact .nil
  | q :: p, es, e => by
    unfold arrange at e
    rw [List.map_cons, List.mapM_cons] at e
    cases q with
    | inl i =>
      cases q1 : ds[i]? with
      | none => simp only [arrS, q1] at e; cases e
      | some d =>
        simp only [arrS, q1] at e
        cases q2 : arrange (p.map (arrS dfl)) ds with
        | none => unfold arrange at q2; rw [q2] at e; cases e
        | some es' =>
          have q3 := q2
          unfold arrange at q3
          rw [q3] at e
          cases e
          have := den_getD h i
          rw [List.getD_eq_getElem?_getD (l := ds), q1] at this
          exact .cons this (den_arr h hd q2)
    | inr j =>
      simp only [arrS] at e
      cases q2 : arrange (p.map (arrS dfl)) ds with
      | none => unfold arrange at q2; rw [q2] at e; cases e
      | some es' =>
        have q3 := q2
        unfold arrange at q3
        rw [q3] at e
        cases e
        exact .cons (den_getD hd j) (den_arr h hd q2)

/-! ### the call -/
/-- positional values, then those of keywords, then the def -/
def tCallG (n m : Nat) (sp : Sp) (gV : List V → List V) (Wx : WX) (t u : TA) : TE := fun σ H Q => t σ H fun vs H1 => u σ H1 fun zs H2 => vs.length = n ∧ zs.length = m ∧ sp (gV (vs ++ zs)) H2 Q (fun cls d H' => Wx cls d σ H')
section
variable {X : Cx} {Wx : WX} {n : Nat} {fa : Addr} {fd : FuncData} {ps ks : List Str} {sp : Sp} {x : Str} {p0 pos : Pos} {es : List Expr} {kws : List Keyword} {ta tk : TA} {p : List Sy} {dvs : List V} {its : List Value}
theorem starAll {env : Env} : ∀ {es : List Expr}, es.all (fun e => !isStar e) = true → starEach es env = es.map fun e => (false, eval e env)
  | [], _ => rfl
  | e :: es, h => by
    rw [List.all_cons, Bool.and_eq_true, Bool.not_eq_true'] at h
    rw [starEach_of h.1, List.map_cons, starAll h.2]
theorem backAll {env : Env} {es : List Expr} (h : es.all (fun e => !isStar e) = true) : (backTo pos (starEach es env)).any (·.1) = false := by
  rw [starAll h]
  unfold backTo
  rw [List.map_map, List.any_map, List.any_eq_false]
  intro e _ z
  cases z
theorem kw_facts {env : Env} : ∀ {kws : List Keyword} {ks : List Str}, kws.map (·.arg) = ks.map some → (backToKw pos (keywordEach kws env)).all (·.1.isSome) = true ∧ (backToKw pos (keywordEach kws env)).any (·.1.isNone) = false ∧ (backToKw pos (keywordEach kws env)).filterMap (·.1) = ks
  | [], [], _ => ⟨rfl, rfl, rfl⟩
  | [], _ :: _, h => by cases h
  | _ :: _, [], h => by cases h
  | ⟨nm, v, q⟩ :: kws, k :: ks, h => by
    rw [List.map_cons, List.map_cons, List.cons.injEq] at h
    obtain ⟨rfl, h⟩ := h
    obtain ⟨h1, h2, h3⟩ := kw_facts (env := env) h
    unfold backToKw at h1 h2 h3 ⊢
    unfold keywordEach
    rw [List.map_cons]
    refine ⟨?_, ?_, ?_⟩
    · rw [List.all_cons, h1]; rfl
    · rw [List.any_cons, h2]; rfl
    · rw [List.filterMap_cons]
      exact congrArg (k :: ·) h3
/-- the def runs -/
theorem run_fnG {m : Nat} (F : FnG X.prog X.w X.K X.mg X.base (L2.CX X.prog X.w) n fa fd ps sp) (hr : Room n X.A) (gd : X.A.guards = some []) (tk' : Takes X Wx) (hb : BindG X.K fd ps m ks p its) (hd : Vals dvs its) {pins : List (Addr × Obj)} {σ : L2.St} {Q : VK}
    {us ws : List Value} {vs zs : List V} {s2 : Shared} {H2 : Hp} (I2 : L2.Inv X pins σ H2 s2) (r1 : Vals vs us) (r2 : Vals zs ws) (l1 : vs.length = m) (l2 : zs.length = ks.length) (hsp : sp (p.map (valV (vs ++ zs) dvs)) H2 Q (fun cls d H' => Wx cls d σ H')) :
    wpAny (model X.prog X.w) X.A (call (.ref fa) us (ks.zip ws)) (EP X pins σ Q) X.xe s2 := by
  have rr := r1.append r2
  have lu : us.length = m := r1.length.symm.trans l1
  have lw : ws.length = ks.length := r2.length.symm.trans l2
  have bd := hb.to s2 (us ++ ws) I2.kIn (by rw [List.length_append, lu, lw])
  rw [← lu, List.take_left, List.drop_left] at bd
  refine wpAny_call (codeAny_mono (F.go X.A X.stack s2 H2 _ _ _ Q _ hr gd I2.env0 bd (vals_sy rr hd p) hsp) fun res s3 h3 => ?_)
  cases res with
  | error ex => exact tk' ex s3 (XE.of_call I2 (fun _ _ _ z => z) h3)
  | ok fl =>
    cases fl with
    | ret u => exact I2.after h3
    | next => exact h3.elim
    | brk => exact h3.elim
    | cont => exact h3.elim
theorem pe_callG {e : Expr} (F : FnG X.prog X.w X.K X.mg X.base (L2.CX X.prog X.w) n fa fd ps sp) (hr : Room n X.A) (gd : X.A.guards = some []) (tk' : Takes X Wx) (hg : Gl X x) (hm : X.mg x = some (.ref fa)) (hk : PySem.W.keepIn X.K (.ref fa) = true) (hb : BindG X.K fd ps (es.length + 1) ks p its) (hd : Vals dvs its)
    (hdb : (x == ("__debug__" : Str)) = false) (ha : PA X (e :: es) ta) (hkw : PK X kws tk) (hst : (e :: es).all (fun e => !isStar e) = true) (hks : kws.map (·.arg) = ks.map some) :
    PE X (.Call (.Name x p0) (e :: es) kws pos) (tCallG (es.length + 1) ks.length sp (fun vs => p.map (valV vs dvs)) Wx ta tk) := by
  refine ⟨fun pins s σ H Q I h => ?_⟩
  obtain ⟨k1, k2, k3⟩ := kw_facts (env := X.env) (pos := pos) hks
  refine wpAny_Call_Name_kw (ld_glob I hg hm ?_ hdb)
  rw [List.all_cons, Bool.and_eq_true, Bool.not_eq_true'] at hst
  refine PySem.W.callWith_KW (h₀ := X.base) I.ok.mod.kin hk k1 (thn (ha.run pos pins s σ H _ I h) fun us s1 ⟨vs, H1, I1, r1, q1⟩ => ?_) (by rw [starEach_of hst.1]; show ((false || (backTo pos (starEach es X.env)).any (·.1)) || _) = false; rw [backAll hst.2, k2]; rfl) (starEach_of hst.1)
  refine thn (hkw.run pos pins s1 σ H1 _ I1 q1) fun ws s2 ⟨zs, H2, I2, r2, l1, l2, q2⟩ => ⟨I2.kIn, ?_⟩
  rw [k3]
  exact run_fnG F hr gd tk' hb hd I2 r1 r2 l1 l2 q2
theorem pe_callG0 (F : FnG X.prog X.w X.K X.mg X.base (L2.CX X.prog X.w) n fa fd ps sp) (hr : Room n X.A) (gd : X.A.guards = some []) (tk' : Takes X Wx) (hg : Gl X x) (hm : X.mg x = some (.ref fa)) (hk : PySem.W.keepIn X.K (.ref fa) = true) (hb : BindG X.K fd ps 0 ks p its) (hd : Vals dvs its)
    (hdb : (x == ("__debug__" : Str)) = false) (hkw : PK X kws tk) (hks : kws.map (·.arg) = ks.map some) : PE X (.Call (.Name x p0) [] kws pos) (tCallG 0 ks.length sp (fun vs => p.map (valV vs dvs)) Wx tNil tk) := by
  refine ⟨fun pins s σ H Q I h => ?_⟩
  obtain ⟨k1, k2, k3⟩ := kw_facts (env := X.env) (pos := pos) hks
  refine wpAny_Call_Name_kw (ld_glob I hg hm ?_ hdb)
  refine PySem.W.callWith_KW0 (h₀ := X.base) I.ok.mod.kin hk k1 ?_ (by rw [k2]; rfl)
  have h : tk σ H (fun zs H2 => ([] : List V).length = 0 ∧ zs.length = ks.length ∧ sp (p.map (valV ([] ++ zs) dvs)) H2 Q (fun cls d H' => Wx cls d σ H')) := h
  refine thn (hkw.run pos pins s σ H _ I h) fun ws s2 ⟨zs, H2, I2, r2, l1, l2, q2⟩ => ⟨I2.kIn, ?_⟩
  rw [k3]
  exact run_fnG (vs := []) (us := []) F hr gd tk' hb hd I2 .nil r2 l1 l2 q2
end

/-! ### Cy's defs -/
def PostC (F : Fg) (W : Wd) (h : List Ob) (H : Hp) (Q : VK) (E : XK) : CR → Prop
  | .bad => False
  | .ok d h' => ∀ W' H' v, Ext W ⟨[], h⟩ [] H W' ⟨[], h'⟩ [] H' → HRel F W' h' H' → Den F W' H' v d → Q v H'
  | .exc x h' => ∀ W' H' cls dct, Ext W ⟨[], h⟩ [] H W' ⟨[], h'⟩ [] H' → HRel F W' h' H' → ExcD F W' H' x cls dct → E cls dct H'
/-- what Cy's run of f says -/
def SpC (F : Fg) (g : G) (np : Nat) (f : Nm) : Sp := fun vs H Q E => vs.length = np ∧ ∃ W h ds, HRel F W h H ∧ DenL F W H vs ds ∧ PostC F W h H Q E (g f ds h)
/-- x can be called: it keeps what Cy says -/
structure Callee (X : Cx) (g : G) (n : Nat) (x : Str) (ps : List Str) (dfl : List D) : Prop where
  ex : ∃ (fa : Addr) (fd : FuncData) (dvs : List V), X.mg x = some (.ref fa) ∧ PySem.W.keepIn X.K (.ref fa) = true ∧ FnG X.prog X.w X.K X.mg X.base (L2.CX X.prog X.w) n fa fd ps (SpC X.K g ps.length x.cps.toList) ∧
    (∀ W H, DenL X.K W H dvs dfl) ∧ ∀ m ks p, bindS ps m ks dfl.length = some p → ∃ its, Vals dvs its ∧ BindG X.K fd ps m ks p its
section
variable {F : Fg} {W W' : Wd} {s : S} {σ : St} {H H' : Hp} {h' : List Ob}
/-- a callee's change, seen by its caller -/
theorem Ext.called (r : Rel F W s σ H) (e : Ext W ⟨[], s.h⟩ [] H W' ⟨[], h'⟩ [] H') : Ext W s σ H W' { s with h := h' } σ H' :=
  ⟨e.ref, e.frz, fun b o hb _ nr => e.keep b o hb (fun ⟨i, d, z, _⟩ => by simp at z) nr, fun b _ h => h, e.trk⟩
theorem Rel.called (r : Rel F W s σ H) (e : Ext W ⟨[], s.h⟩ [] H W' ⟨[], h'⟩ [] H') (hr : HRel F W' h' H') : Rel F W' { s with h := h' } σ H' := by
  have E := Ext.called r e
  have st := E.stab r
  refine ⟨r.len, fun i d hd => ?_, fun i d hd => ?_, r.sep, hr⟩
  · obtain ⟨v, e1, q⟩ := r.val i d hd
    exact ⟨v, e1, q.stab st⟩
  · obtain ⟨a, e1, q, nf, nr⟩ := r.own i d hd
    obtain ⟨o, ho, _⟩ := q.some
    obtain ⟨k1, k2, k3⟩ := e.keep a o ho (fun ⟨i, d, z, _⟩ => by simp at z) nr
    exact ⟨a, e1, q.stab st ((k1.same nf).trans ho.symm), fun z => nf (k2 z), k3⟩
end
section
variable {X : Cx} {Wx : WX} {g : G} {n : Nat} {ps ks : List Str} {dfl : List D} {x : Str} {p0 pos kpos : Pos} {e : Expr} {es : List Expr} {kws : List Keyword} {p : List Sy} {nm : Option Str}
theorem sk_nil : PK X [] (tax X.K Wx g aNil) := ⟨fun pos pins s σ H Q I h => pk_nil.run pos pins s σ H Q I (by
  obtain ⟨W, s', r, p⟩ := h
  exact p _ _ _ Ext.refl r .nil)⟩
theorem sk_cons {ce : Ex} {cr : Ax} (he : PE X e (tev X.K Wx g ce)) (hr : PK X kws (tax X.K Wx g cr)) : PK X (⟨nm, e, kpos⟩ :: kws) (tax X.K Wx g (aCons ce cr)) := ⟨fun pos pins s σ H Q I h => (pk_cons he hr).run pos pins s σ H Q I (by
  obtain ⟨W, s', r, p⟩ := h
  refine tr_bind (De := Den X.K) r p fun d s1 W1 H1 v e1 r1 d1 p1 => ?_
  refine tr_bind (De := DenL X.K) r1 p1 fun ds s2 W2 H2 vs e2 r2 d2 p2 => ?_
  exact p2 _ _ _ Ext.refl r2 (.cons (d1.ext r1 e2) d2))⟩
theorem call_run {F : Fg} {m : Nat} {ca ck : Ax} {f : Nm} {dvs : List V} {σ : St} {H : Hp} {Q : VK} (hps : ps.length = p.length) (hdl : ∀ W H, DenL F W H dvs dfl) (hbs : ∀ ds es, arrange (p.map (arrS dfl)) ds = some es → es.length = p.length) {ta : TA} (hta : ∀ σ H Q, tax F Wx g ca σ H Q → ta σ H Q)
    (h : tev F Wx g (callK f m ca ck (p.map (arrS dfl))) σ H Q) (hk : ∀ g s l s', ck g s = .ok l s' → l.length = ks.length) : tCallG m ks.length (SpC F g ps.length f) (fun vs => p.map (valV vs dvs)) Wx ta (tax F Wx g ck) σ H Q := by
  obtain ⟨W, s, r, pp⟩ := h
  refine hta _ _ _ (tr_bind (De := DenL F) r pp fun xs s1 W1 H1 vs e1 r1 d1 p1 => ?_)
  have p1 : Post F Wx (Den F) W1 s1 σ H1 Q ((ck g s1).bind fun ys s => if xs.length = m then (match arrange (p.map (arrS dfl)) (xs ++ ys) with
    | none => .bad
    | some es => (match g f es s.h with
      | .bad => .bad
      | .ok d h => .ok d { s with h := h }
      | .exc x h => .exc x { s with h := h })) else .bad) := p1
  refine ⟨W1, s1, r1, ?_⟩
  cases qk : ck g s1 with
  | bad => rw [qk] at p1; exact p1
  | exc x s2 => rw [qk] at p1; exact p1
  | ok ys s2 =>
    rw [qk] at p1
    intro W2 H2 zs e2 r2 d2
    have p2 : Post F Wx (Den F) W2 s2 σ H2 Q (if xs.length = m then (match arrange (p.map (arrS dfl)) (xs ++ ys) with
      | none => .bad
      | some es => (match g f es s2.h with
        | .bad => .bad
        | .ok d h => .ok d { s2 with h := h }
        | .exc x h => .exc x { s2 with h := h })) else .bad) := Post.shift e2 p1
    by_cases hm : xs.length = m
    · rw [if_pos hm] at p2
      refine ⟨by rw [d1.length]; exact hm, by rw [d2.length]; exact hk _ _ _ _ qk, ?_⟩
      cases qa : arrange (p.map (arrS dfl)) (xs ++ ys) with
      | none => simp only [qa] at p2; exact p2.elim
      | some args =>
        simp only [qa] at p2
        refine ⟨by rw [List.length_map]; exact hps.symm, W2, s2.h, args, r2.hp, den_arr ((d1.ext r1 e2).append d2) (hdl _ _) qa, ?_⟩
        cases qg : g f args s2.h with
        | bad => simp only [qg] at p2; exact p2.elim
        | ok d h => simp only [qg] at p2; exact fun W' H' v e' hr' d' => p2 W' H' v (Ext.called r2 e') (r2.called e' hr') d'
        | exc x h => simp only [qg] at p2; exact fun W' H' c d e' hr' x' => p2 W' H' c d (Ext.called r2 e') (r2.called e' hr') x'
    · rw [if_neg hm] at p2; exact p2.elim
theorem arr_len {q : List (Sum Nat D)} : ∀ {ds es : List D}, arrange q ds = some es → es.length = q.length := by
  induction q with
  | nil => intro ds es e; cases e; rfl
  | cons a q ih =>
    intro ds es e
    unfold arrange at e
    rw [List.mapM_cons] at e
    cases a with
    | inl i =>
      cases q1 : ds[i]? with
      | none => simp only [q1] at e; cases e
      | some d =>
        simp only [q1] at e
        cases q2 : arrange q ds with
        | none => unfold arrange at q2; rw [q2] at e; cases e
        | some es' =>
          have q3 := q2
          unfold arrange at q3
          rw [q3] at e
          cases e
          exact congrArg (· + 1) (ih q2)
    | inr d =>
      cases q2 : arrange q ds with
      | none => unfold arrange at q2; simp only [q2] at e; cases e
      | some es' =>
        have q3 := q2
        unfold arrange at q3
        simp only [q3] at e
        cases e
        exact congrArg (· + 1) (ih q2)
theorem bindS_len {normal : List Str} {m k : Nat} {ks : List Str} (h : bindS normal m ks k = some p) : normal.length = p.length := by
  unfold bindS at h
  split at h
  · rename_i hh
    clear hh
    revert h
    generalize (fun x => (slotsOf normal (syU m) (syK m ks) (syD k)).lookup x) = f
    intro h
    induction normal generalizing p with
    | nil => cases h; rfl
    | cons a l ih =>
      rw [List.mapM_cons] at h
      cases q : f a with
      | none => rw [q] at h; cases h
      | some v =>
        rw [q] at h
        cases q2 : l.mapM f with
        | none => rw [q2] at h; cases h
        | some vs => rw [q2] at h; cases h; exact congrArg (· + 1) (ih q2)
  · cases h
/-- a call of a def -/
theorem se_call {ca ck : Ax} (cc : Cc X Wx) (hr : Room n X.A) (cal : Callee X g n x ps dfl) (hg : Gl X x) (hdb : (x == ("__debug__" : Str)) = false) (ha : PA X es (tax X.K Wx g ca)) (he : es ≠ []) (hkw : PK X kws (tax X.K Wx g ck)) (hst : es.all (fun e => !isStar e) = true) (hks : kws.map (·.arg) = ks.map some)
    (hb : bindS ps es.length ks dfl.length = some p) (hkl : ∀ g s l s', ck g s = .ok l s' → l.length = ks.length) : PE X (.Call (.Name x p0) es kws pos) (tev X.K Wx g (callK x.cps.toList es.length ca ck (p.map (arrS dfl)))) := by
  obtain ⟨fa, fd, dvs, hm, hk, F, hdl, hbd⟩ := cal.ex
  obtain ⟨its, rv, bg⟩ := hbd _ _ _ hb
  cases es with
  | nil => exact absurd rfl he
  | cons e es => exact (pe_callG F hr cc.gd cc.tk hg hm hk bg rv hdb ha hkw hst hks).mono fun σ H Q h => call_run (bindS_len hb) hdl (fun ds es q => by rw [arr_len q, List.length_map]) (fun _ _ _ h => h) h hkl
theorem se_call0 {ck : Ax} (cc : Cc X Wx) (hr : Room n X.A) (cal : Callee X g n x ps dfl) (hg : Gl X x) (hdb : (x == ("__debug__" : Str)) = false) (hkw : PK X kws (tax X.K Wx g ck)) (hks : kws.map (·.arg) = ks.map some)
    (hb : bindS ps 0 ks dfl.length = some p) (hkl : ∀ g s l s', ck g s = .ok l s' → l.length = ks.length) : PE X (.Call (.Name x p0) [] kws pos) (tev X.K Wx g (callK x.cps.toList 0 aNil ck (p.map (arrS dfl)))) := by
  obtain ⟨fa, fd, dvs, hm, hk, F, hdl, hbd⟩ := cal.ex
  obtain ⟨its, rv, bg⟩ := hbd _ _ _ hb
  exact (pe_callG0 F hr cc.gd cc.tk hg hm hk bg rv hdb hkw hks).mono fun σ H Q h => call_run (bindS_len hb) hdl (fun ds es q => by rw [arr_len q, List.length_map]) (fun σ H Q ⟨W, s, r, p⟩ => p _ _ _ Ext.refl r .nil) h hkl
end

/-! ### a def keeps what Cy says -/
section
variable {F : Fg} {W : Wd} {H : Hp} {h : List Ob} {vs : List V} {ds : List D}
theorem start_rel {fn : Fn} {N : List Str} (hn : N.length = fn.ns) (hl : ds.length = fn.np) (r : HRel F W h H) (d : DenL F W H vs ds) (hp : fn.np ≤ fn.ns) : Rel F W ⟨Cy.start fn ds, h⟩ (L2.start N vs) H := by
  have no : ∀ (i : Nat) (c : D), (Cy.start fn ds)[i]? ≠ some (.own c) := fun i c e => by
    unfold Cy.start at e
    rw [List.getElem?_append] at e
    split at e
    · rw [List.getElem?_map] at e
      cases q : ds[i]? with
      | none => rw [q] at e; cases e
      | some x => rw [q] at e; cases e
    · rw [List.getElem?_replicate] at e
      split at e <;> cases e
  refine ⟨?_, fun i c e => ?_, fun i c e => absurd e (no i c), fun i j c e a h1 => absurd h1 (no i c), r⟩
  · show (Cy.start fn ds).length = (L2.start N vs).length
    unfold Cy.start L2.start
    simp only [List.length_append, List.length_map, List.length_replicate]
    have := d.length
    omega
  · have e : (Cy.start fn ds)[i]? = some (.val c) := e
    unfold Cy.start at e
    rw [List.getElem?_append] at e
    by_cases z : i < (ds.map Sl.val).length
    · rw [if_pos z, List.getElem?_map] at e
      cases q : ds[i]? with
      | none => rw [q] at e; cases e
      | some x =>
        rw [q] at e
        cases e
        obtain ⟨v, h1, h2⟩ := d.get q
        refine ⟨v, ?_, h2⟩
        unfold L2.start
        rw [List.getElem?_append_left (by rw [List.length_map, d.length]; simpa using z), List.getElem?_map, h1]
        rfl
    · rw [if_neg z, List.getElem?_replicate] at e
      split at e <;> cases e
/-! ### what nobody knows any more goes -/
mutual
theorem noR_mono (m : Nat) : ∀ d : D, noR 0 d = true → noR m d = true
  | .non, _ => rfl
  | .bl _, _ => rfl
  | .int _, _ => rfl
  | .str _, _ => rfl
  | .rep _, _ => rfl
  | .ref n, h => by simp [noR] at h
  | .tup l, h => by rw [noR] at h ⊢; exact noRL_mono m l h
  | .lst l, h => by rw [noR] at h ⊢; exact noRL_mono m l h
  | .fro l, h => by rw [noR] at h ⊢; exact noRL_mono m l h
  | .frt l, h => by rw [noR] at h ⊢; exact noRL_mono m l h
  | .dic l, h => by rw [noR] at h ⊢; exact noRK_mono m l h
  | .dit l, h => by rw [noR] at h ⊢; exact noRT_mono m l h
theorem noRL_mono (m : Nat) : ∀ l : List D, noRL 0 l = true → noRL m l = true
  | [], _ => rfl
  | x :: l, h => by
    rw [noRL, Bool.and_eq_true] at h ⊢
    exact ⟨noR_mono m x h.1, noRL_mono m l h.2⟩
theorem noRK_mono (m : Nat) : ∀ l : List (K × D), noRK 0 l = true → noRK m l = true
  | [], _ => rfl
  | (k, x) :: l, h => by
    rw [noRK, Bool.and_eq_true] at h ⊢
    exact ⟨noR_mono m x h.1, noRK_mono m l h.2⟩
theorem noRT_mono (m : Nat) : ∀ l : List (List K × D), noRT 0 l = true → noRT m l = true
  | [], _ => rfl
  | (k, x) :: l, h => by
    rw [noRT, Bool.and_eq_true] at h ⊢
    exact ⟨noR_mono m x h.1, noRT_mono m l h.2⟩
end
def Wd.tr (W : Wd) (n : Nat) : Wd := { W with ref := fun m => if m < n then W.ref m else none }
section
variable {F : Fg} {W : Wd} {H : Hp} {n : Nat}
mutual
theorem Den.tr : ∀ {v : V} {d : D}, Den F W H v d → noR n d = true → Den F (W.tr n) H v d
  | _, _, .non, _ => .non
  | _, _, .bl b, _ => .bl b
  | _, _, .int i, _ => .int i
  | _, _, .str x, _ => .str x
  | _, _, .rep d, _ => .rep d
  | _, _, .tup h r, z => .tup h (DenL.tr r (by rw [noR] at z; exact z))
  | _, _, .lst f h r, z => .lst f h (DenL.tr r (by rw [noR] at z; exact z))
  | _, _, .fro h r, z => .fro h (DenL.tr r (by rw [noR] at z; exact z))
  | _, _, .frt h r, z => .frt h (DenL.tr r (by rw [noR] at z; exact z))
  | _, _, .dic f h r, z => .dic f h (DenK.tr r (by rw [noR] at z; exact z))
  | _, _, .dit f h r, z => .dit f h (DenT.tr r (by rw [noR] at z; exact z))
  | _, _, .ref (n := k) (a := a) h, z => .ref (by
    show (if k < n then W.ref k else none) = some a
    have : k < n := by simpa [noR] using z
    rw [if_pos this]; exact h)
theorem DenL.tr : ∀ {v : List V} {d : List D}, DenL F W H v d → noRL n d = true → DenL F (W.tr n) H v d
  | _, _, .nil, _ => .nil
  | _, _, .cons h r, z => by
    rw [noRL, Bool.and_eq_true] at z
    exact .cons (Den.tr h z.1) (DenL.tr r z.2)
theorem DenK.tr : ∀ {v : List (Key × V)} {d : List (K × D)}, DenK F W H v d → noRK n d = true → DenK F (W.tr n) H v d
  | _, _, .nil, _ => .nil
  | _, _, .cons h r, z => by
    rw [noRK, Bool.and_eq_true] at z
    exact .cons (Den.tr h z.1) (DenK.tr r z.2)
theorem DenT.tr : ∀ {v : List (List Key × V)} {d : List (List K × D)}, DenT F W H v d → noRT n d = true → DenT F (W.tr n) H v d
  | _, _, .nil, _ => .nil
  | _, _, .cons h r, z => by
    rw [noRT, Bool.and_eq_true] at z
    exact .cons (Den.tr h z.1) (DenT.tr r z.2)
end
theorem OwnOb.tr {a : Addr} {o : Ob} (h : OwnOb F W H a (obD o)) (z : noRO 0 o = true) : OwnOb F (W.tr n) H a (obD o) := by
  cases o with
  | lst l => obtain ⟨vs, e, r⟩ := h; exact ⟨vs, e, r.tr (noRL_mono n l z)⟩
  | dic l => obtain ⟨vs, e, r⟩ := h; exact ⟨vs, e, r.tr (noRK_mono n l z)⟩
  | dit l => obtain ⟨vs, e, r⟩ := h; exact ⟨vs, e, r.tr (noRT_mono n l z)⟩
theorem HRel.tr {h : List Ob} (r : HRel F W h H) (hn : n ≤ h.length) : HRel F (W.tr n) (h.take n) H := by
  have down : ∀ m a, (W.tr n).ref m = some a → m < n ∧ W.ref m = some a := fun m a e => by
    have e : (if m < n then W.ref m else none) = some a := e
    by_cases z : m < n
    · rw [if_pos z] at e; exact ⟨z, e⟩
    · rw [if_neg z] at e; cases e
  have get : ∀ m o, (h.take n)[m]? = some o → m < n ∧ h[m]? = some o := fun m o e => by
    have lt := (List.getElem?_eq_some_iff.mp e).1
    rw [List.length_take] at lt
    have lt : m < n := by omega
    rw [List.getElem?_take_of_lt lt] at e
    exact ⟨lt, e⟩
  refine ⟨r.frz, fun m a e => ?_, fun m o e => ?_, fun m k a e1 e2 => r.inj m k a (down _ _ e1).2 (down _ _ e2).2, fun m o e => r.nor m o (get m o e).2⟩
  · obtain ⟨lt, e⟩ := down m a e
    obtain ⟨nf, o, q, w⟩ := r.refs m a e
    exact ⟨nf, o, by rw [List.getElem?_take_of_lt lt]; exact q, w.tr (r.nor m o q)⟩
  · obtain ⟨lt, e⟩ := get m o e
    obtain ⟨a, ha⟩ := r.all m o e
    exact ⟨a, by show (if m < n then W.ref m else none) = some a; rw [if_pos lt]; exact ha⟩
theorem gc_post {h : List Ob} {Q : VK} {E : XK} (r : HRel F W h H) {c : CR} (p : PostC F W h H Q E (c.gc h.length)) : PostC F W h H Q E c := by
  cases c with
  | bad => exact p
  | exc x h' => exact p
  | ok d h' =>
    unfold CR.gc at p
    by_cases z : h'.length ≤ h.length
    · simp only [if_pos z] at p; exact p
    · by_cases y : noR h.length d = true
      · simp only [if_neg z, if_pos y] at p
        intro W' H' v e r' dv
        refine p (W'.tr h.length) H' v ⟨fun m a hm => ?_, e.frz, fun b o hb no nr => ?_, fun b _ ⟨i, d, q, _⟩ => by simp at q, e.trk⟩ (r'.tr (by omega)) (dv.tr y)
        · obtain ⟨_, o, q, _⟩ := r.refs m a hm
          have lt := (List.getElem?_eq_some_iff.mp q).1
          show (if m < h.length then W'.ref m else none) = some a
          rw [if_pos lt]
          exact e.ref m a hm
        · obtain ⟨k1, k2, k3⟩ := e.keep b o hb (fun ⟨i, d, q, _⟩ => by simp at q) nr
          refine ⟨k1, k2, fun m hm => ?_⟩
          have hm : (if m < h.length then W'.ref m else none) = some b := hm
          by_cases lt : m < h.length
          · rw [if_pos lt] at hm; exact k3 m hm
          · rw [if_neg lt] at hm; cases hm
      · simp only [if_neg z, if_neg y] at p; exact p
end
theorem body_run {Wx : WX} {g : G} {fn : Fn} {N : List Str} {Q : VK} {E : XK} (hn : N.length = fn.ns) (hp : fn.np ≤ fn.ns) (hW : ∀ cls d σ H', E cls d H' → Wx cls d σ H') (r : HRel F W h H) (d : DenL F W H vs ds) (q : PostC F W h H Q E (runF fn g ds h)) :
    tst F Wx g fn.body { nx := fun _ H' => Q .non H', rt := Q } (L2.start N vs) H := by
  unfold runF at q
  by_cases hl : ds.length = fn.np
  · rw [if_pos hl] at q
    have q := gc_post r q
    have rel := start_rel hn hl r d hp
    have no : ∀ b, ¬ OwnAt ⟨Cy.start fn ds, h⟩ (L2.start N vs) b := fun b ⟨i, c, e, _⟩ => by
      have e : (Cy.start fn ds)[i]? = some (.own c) := e
      unfold Cy.start at e
      rw [List.getElem?_append] at e
      split at e
      · rw [List.getElem?_map] at e
        cases q : ds[i]? with
        | none => rw [q] at e; cases e
        | some x => rw [q] at e; cases e
      · rw [List.getElem?_replicate] at e
        split at e <;> cases e
    have ext : ∀ {W' : Wd} {s' : S} {σ' : St} {H' : Hp}, Ext W ⟨Cy.start fn ds, h⟩ (L2.start N vs) H W' s' σ' H' → Ext W ⟨[], h⟩ [] H W' ⟨[], s'.h⟩ [] H' := fun {W' s' σ' H'} e =>
      ⟨e.ref, e.frz, fun b o hb _ nr => e.keep b o hb (no b) nr, fun b _ ⟨i, c, z, _⟩ => by simp at z, e.trk⟩
    refine ⟨W, _, rel, ?_⟩
    cases qb : fn.body g ⟨Cy.start fn ds, h⟩ with
    | bad => rw [qb] at q; exact q.elim
    | nx s' => rw [qb] at q; exact fun W' σ' H' e r' => q W' H' .non (ext e) r'.hp .non
    | rt v h' => rw [qb] at q; exact fun W' H' u e r' du => q W' H' u (ext (s' := ⟨[], h'⟩) e) r' du
    | bk s' => rw [qb] at q; exact q.elim
    | ct s' => rw [qb] at q; exact q.elim
    | exc x s' => rw [qb] at q; exact fun W' σ' H' c dd e r' x' => hW _ _ _ _ (q W' H' c dd (ext e) r'.hp x')
  · rw [if_neg hl] at q; exact q.elim
end
end Cy

set_option Elab.async false
set_option linter.all false
set_option maxRecDepth 100000
/-! Cy over the hand layer: repr, chained comparisons, dict displays, shared objects, several names at once. -/
namespace Cy
open L2 PySem PySem.Spec PyProof.Rows

/-! ### repr -/
theorem pl_str : ∀ {n : Nat} {x : Nm}, pl n (.str x) = true → (x.all fun c => Nat.blt c 1114112) = true
  | 0, _, h => h
  | _ + 1, _, h => h
mutual
theorem wt_len : ∀ (n : Nat) (d : D), pl n d = true → ints1920 d = true → (py d).shown.length ≤ wt d
  | n, d, h, hi => by
    cases d with
    | non => exact Nat.le_refl 4
    | bl b => cases b <;> decide
    | int i =>
      have hi : fitI 1920 i = true := hi
      unfold fitI at hi
      rw [decide_eq_true_eq] at hi
      have : (PySem.Str.ofString (toString i)).length ≤ 1921 := int_text_len_1921 hi
      exact Nat.le_trans this (by show 1921 ≤ 2000; decide)
    | str x =>
      have h := pl_str h
      rw [List.all_eq_true] at h
      have l := PySem.StrLaws.reprText_len (st x) fun c hc => by
        rw [st_cps] at hc
        have := h c hc
        rw [Nat.blt_eq] at this
        exact Nat.lt_trans this (by decide)
      rw [st_length] at l
      exact l
    | tup l =>
      cases n with
      | zero => simp [pl] at h
      | succ n =>
        have h1 := wt_lenL n l (by simpa only [pl] using h) hi
        have h2 := tupleText_len_le (PyData.shownAll (pyL l))
        show (tupleText (PyData.shownAll (pyL l))).length ≤ wt.wtL l + 3
        omega
    | lst l =>
      cases n with
      | zero => simp [pl] at h
      | succ n =>
        have h1 := wt_lenL n l (by simpa only [pl] using h) hi
        have h2 := listText_len_le (PyData.shownAll (pyL l))
        show (listText (PyData.shownAll (pyL l))).length ≤ wt.wtL l + 3
        omega
    | dic l => cases n <;> simp [pl] at h
    | dit l => cases n <;> simp [pl] at h
    | ref l => cases n <;> simp [pl] at h
    | fro l => cases n <;> simp [pl] at h
    | frt l => cases n <;> simp [pl] at h
    | rep l => cases n <;> simp [pl] at h
theorem wt_lenL : ∀ (n : Nat) (l : List D), l.all (pl n) = true → ints1920.all1920 l = true → ((PyData.shownAll (pyL l)).map (·.length)).sum + 2 * (PyData.shownAll (pyL l)).length ≤ wt.wtL l
  | n, [], _, _ => Nat.le_refl 0
  | n, x :: l, h, hi => by
    rw [List.all_cons, Bool.and_eq_true] at h
    have hi : (ints1920 x && ints1920.all1920 l) = true := hi
    rw [Bool.and_eq_true] at hi
    have h1 := wt_len n x h.1 hi.1
    have h2 := wt_lenL n l h.2 hi.2
    show (((py x).shown :: PyData.shownAll (pyL l)).map (·.length)).sum + 2 * ((py x).shown :: PyData.shownAll (pyL l)).length ≤ wt x + 2 + wt.wtL l
    rw [List.map_cons, List.sum_cons, List.length_cons]
    omega
end
mutual
theorem show_ok : ∀ (n : Nat) (d : D), pl n d = true → ints1920 d = true → (py d).showable = true ∧ (py d).hasDict = false
  | n, d, h, hi => by
    cases d with
    | non => exact ⟨rfl, rfl⟩
    | bl b => exact ⟨rfl, rfl⟩
    | int i => exact ⟨hi, rfl⟩
    | str x => exact ⟨rfl, rfl⟩
    | tup l =>
      cases n with
      | zero => simp [pl] at h
      | succ n => exact show_okL n l (by simpa only [pl] using h) hi
    | lst l =>
      cases n with
      | zero => simp [pl] at h
      | succ n => exact show_okL n l (by simpa only [pl] using h) hi
    | dic l => cases n <;> simp [pl] at h
    | dit l => cases n <;> simp [pl] at h
    | ref l => cases n <;> simp [pl] at h
    | fro l => cases n <;> simp [pl] at h
    | frt l => cases n <;> simp [pl] at h
    | rep l => cases n <;> simp [pl] at h
theorem show_okL : ∀ (n : Nat) (l : List D), l.all (pl n) = true → ints1920.all1920 l = true → PyData.showableAll (pyL l) = true ∧ PyData.hasDictAll (pyL l) = false
  | n, [], _, _ => ⟨rfl, rfl⟩
  | n, x :: l, h, hi => by
    rw [List.all_cons, Bool.and_eq_true] at h
    have hi : (ints1920 x && ints1920.all1920 l) = true := hi
    rw [Bool.and_eq_true] at hi
    obtain ⟨a1, a2⟩ := show_ok n x h.1 hi.1
    obtain ⟨b1, b2⟩ := show_okL n l h.2 hi.2
    exact ⟨by show ((py x).showable && PyData.showableAll (pyL l)) = true; rw [a1, b1]; rfl, by show ((py x).hasDict || PyData.hasDictAll (pyL l)) = false; rw [a2, b2]; rfl⟩
end
def rRepr (F : Fg) : List V → Hp → VK → Prop := fun xs H Q => ∃ x d, xs = [x] ∧ Dp F H x d ∧ d.showable = true ∧ d.hasDict = false ∧ d.depth ≤ 64 ∧ d.shown.length ≤ sizeLine ∧ Q (.str d.shown) H
theorem cr_repr {X : Cx} (hu : X.A.units + 200 < cLine) (gd : X.A.guards = some []) : CallR X (.builtin "repr") (rRepr X.K) := by
  intro pins s σ H xs us Q I r h
  obtain ⟨x, d, rfl, hd, s1, s2, s3, s4, q⟩ := h
  obtain ⟨u, rfl, ru⟩ := vals1 r
  have fin : ∀ tk, EP X pins σ Q (.str d.shown tk) { s with toks := s.toks + 1 } := fun tk => ⟨.str d.shown, H, I.tok _, ⟨tk, rfl⟩, q⟩
  have seq : ∀ a, u = .ref a → wpAny (model X.prog X.w) X.A (call (.builtin "repr") [u]) (EP X pins σ Q) X.xe s := fun a ea => by
    subst ea
    obtain ⟨as, rd⟩ := Dp.reads I d x _ hd ru
    refine repr_of_reads' rd s1 (fun z => by rw [s2] at z; cases z) gd (by omega) (fun b o e => e) (fun h' tk t' k => ?_) s4
    exact ⟨.str d.shown, H, I.kept (t' := t') k, ⟨tk, rfl⟩, q⟩
  cases hd with
  | non =>
    cases (show u = Value.none from ru)
    exact call_repr_gives rfl F.slot_NoneType_repr F.entry_NoneType_repr (F.args_NoneType_repr_1 _) gives_none_repr (fin _)
  | bl b =>
    cases (show u = Value.bool b from ru)
    refine call_repr_gives (x := if b then ("True" : Str) else ("False" : Str)) rfl F.slot_bool_repr F.entry_bool_repr (F.args_bool_repr_1 _) ?_ (fin _) rfl (by cases b <;> decide)
    exact gives_bool_repr b
  | int i =>
    obtain ⟨t, rfl⟩ := ru
    exact PySem.P.repr_of_int (by simpa [PyData.showable] using s1) (fin _)
  | str z =>
    obtain ⟨t, rfl⟩ := ru
    exact call_repr_gives (typeIs_str _ _ _) F.slot_str_repr F.entry_str_repr (F.args_str_repr_1 _) (gives_str_repr z t) (fin _) rfl s4
  | lst _ _ => exact seq _ ru
  | tup _ _ => exact seq _ ru
theorem pr_repr {F : Fg} : PrimB F (fun _ => dRepr) (rRepr F) := by
  intro W s σ H v d z Q r hv q k
  have q : (if plain d && ints1920 d && decide (wt d ≤ lim) then some (D.rep d) else none) = some z := q
  split at q
  · rename_i h
    cases q
    rw [Bool.and_eq_true, Bool.and_eq_true, decide_eq_true_eq] at h
    obtain ⟨⟨h1, h2⟩, h3⟩ := h
    obtain ⟨a1, a2⟩ := show_ok 40 d h1 h2
    exact ⟨v, py d, rfl, hv.dp h1, a1, a2, by have := (lay_py 40 d h1).2; omega, Nat.le_trans (wt_len 40 d h1 h2) h3, Ends1.here k r (.rep d)⟩
  · cases q

/-! ### a op b op c -/
section
variable {X : Cx} {Wx : WX} {g : G} {pos : Pos} {a b c : Expr}
/-- a comparison of values, read so -/
def PrimV (F : Fg) (f : D → D → Option D) (r : R2) : Prop := Prim2 F (fun _ => f) r
theorem chain_run {F : Fg} {f f' : D → D → Option D} {r r' : R2} (pr : PrimV F f r) (pr' : PrimV F f' r') {ca cb cc : Ex} {σ : St} {H : Hp} {Q : VK} (h : tev F Wx g (eChain f f' ca cb cc) σ H Q) : tChain r r' (tev F Wx g ca) (tev F Wx g cb) (tev F Wx g cc) σ H Q := by
  obtain ⟨W, s, rl, p⟩ := h
  refine tr_bind (De := Den F) rl p fun x s1 W1 H1 v e1 r1 d1 p1 => ?_
  have p1 : Post F Wx (Den F) W1 s1 σ H1 Q ((cb g s1).bind fun y s => match f x y with
    | some (.bl true) => (cc g s).bind fun z s => (match f' y z with | some r => .ok r s | none => .bad)
    | some (.bl false) => .ok (.bl false) s
    | _ => .bad) := p1
  refine tr_bind (De := Den F) r1 p1 fun y s2 W2 H2 u e2 r2 d2 p2 => ?_
  cases q : f x y with
  | none => simp only [q] at p2; exact p2.elim
  | some z =>
    simp only [q] at p2
    refine pr W2 s2 σ H2 v u x y z _ r2 (.inl (d1.ext r1 e2)) (.inl d2) q fun W3 H3 w e3 r3 d3 => ?_
    have p3 := Post.shift e3 p2
    cases z with
    | bl k =>
      refine ⟨k, d3.blv, ?_⟩
      cases k with
      | false => simp only [Bool.false_eq_true, if_false] at p3 ⊢; exact p3 W3 H3 _ Ext.refl r3 (.bl false)
      | true =>
        simp only [if_true] at p3 ⊢
        refine tr_bind (De := Den F) r3 p3 fun z s4 W4 H4 t e4 r4 d4 p4 => ?_
        cases q2 : f' y z with
        | none => simp only [q2] at p4; exact p4.elim
        | some z' =>
          simp only [q2] at p4
          exact pr' W4 s4 σ H4 u t y z z' _ r4 (.inl ((d2.ext r2 e3).ext r3 e4)) (.inl d4) q2 fun W5 H5 w5 e5 r5 d5 => p4 W5 H5 w5 e5 r5 d5
    | _ => exact p3.elim
theorem se_chain {op op' : CmpOp} {f f' : D → D → Option D} {r r' : R2} {ca cb cc : Ex} (ho : OpR X (compareOp op) r) (ho' : OpR X (compareOp op') r') (pr : PrimV X.K f r) (pr' : PrimV X.K f' r') (hm : lastMarks [op, op'] [b, c] = false)
    (ha : PE X a (tev X.K Wx g ca)) (hb : PE X b (tev X.K Wx g cb)) (hc : PE X c (tev X.K Wx g cc)) : PE X (.Compare a [op, op'] [b, c] pos) (tev X.K Wx g (eChain f f' ca cb cc)) :=
  (pe_chain ho ho' ha hb hc hm).mono fun σ H Q h => chain_run pr pr' h
theorem st_chain {op op' : CmpOp} {f f' : D → D → Option D} {r r' : R2} {ca cb cc : Ex} (ho : OpR X (compareOp op) r) (ho' : OpR X (compareOp op') r') (pr : PrimV X.K f r) (pr' : PrimV X.K f' r') (hm : lastMarks [op, op'] [b, c] = false)
    (ha : PE X a (tev X.K Wx g ca)) (hb : PE X b (tev X.K Wx g cb)) (hc : PE X c (tev X.K Wx g cc)) : PT X (.Compare a [op, op'] [b, c] pos) (ttx X.K Wx g (tE (eChain f f' ca cb cc))) :=
  (pt_chain ho ho' ha hb hc hm).mono fun σ H Q h => chain_run pr pr' (bl_test h)
end
/-! ### dicts just made -/
section
variable {X : Cx} {Wx : WX} {g : G} {pos : Pos}
theorem sf_newK : PE X (.Dict [] [] pos) (tfr X.K Wx g newK) := pe_dnewK.mono fun σ H Q ⟨W, s, r, p⟩ b hb =>
  p W _ b hb (Ext.new hb) (r.new hb) (Acc.new r hb ⟨[], upd_same, .nil⟩)
theorem sf_newT : PE X (.Dict [] [] pos) (tfr X.K Wx g newT) := pe_dnewT.mono fun σ H Q ⟨W, s, r, p⟩ b hb =>
  p W _ b hb (Ext.new hb) (r.new hb) (Acc.new r hb ⟨[], upd_same, .nil⟩)
/-- the pairs are made while the empty dict stands -/
def Pairs (F : Fg) (W : Wd) (H : Hp) (ps : List (V × V)) (m : List (K × D)) : Prop := ∃ kvs : List (Key × V), ps = kvs.map (fun kv => (kV kv.1, kv.2)) ∧ DenK F W H kvs m
theorem pairs_run {F : Fg} {trs : List (TE × TE)} : ∀ {ps : List (Ex × Ex)} {σ : St} {H : Hp} {W : Wd} {s : S} {Q : List (V × V) → Hp → Prop}, trs = ps.map (fun p => (tev F Wx g p.1, tev F Wx g p.2)) → Rel F W s σ H → Post F Wx (Pairs F) W s σ H Q (pairsE ps g s) → tPairs trs σ H Q := by
  intro ps
  induction ps generalizing trs with
  | nil =>
    intro σ H W s Q e r p
    subst e
    exact p W H [] Ext.refl r ⟨[], rfl, .nil⟩
  | cons q ps ih =>
    obtain ⟨k, v⟩ := q
    intro σ H W s Q e r p
    subst e
    have p : Post F Wx (Pairs F) W s σ H Q ((k g s).bind fun x s => (v g s).bind fun y s => (pairsE ps g s).bind fun m s => match key? x with
      | some k => .ok ((k, y) :: m) s
      | none => .bad) := p
    refine tr_bind (De := Den F) r p fun x s1 W1 H1 u e1 r1 d1 p1 => ?_
    refine tr_bind (De := Den F) r1 p1 fun y s2 W2 H2 w e2 r2 d2 p2 => ?_
    have p2 : Post F Wx (Pairs F) W2 s2 σ H2 Q ((pairsE ps g s2).bind fun m s => match key? x with
      | some k => .ok ((k, y) :: m) s
      | none => .bad) := p2
    refine ih rfl r2 ?_
    cases q : pairsE ps g s2 with
    | bad => rw [q] at p2; exact p2
    | exc z s3 => rw [q] at p2; exact p2
    | ok m s3 =>
      rw [q] at p2
      intro W3 H3 pp e3 r3 ⟨kvs, e4, dk⟩
      have p3 : Post F Wx (Pairs F) W2 s2 σ H2 Q (match key? x with
        | some k => .ok ((k, y) :: m) s3
        | none => .bad) := p2
      cases qk : key? x with
      | none => rw [qk] at p3; exact p3.elim
      | some kx =>
        rw [qk] at p3
        have dx := (d1.ext r1 e2).ext r2 e3
        exact p3 W3 H3 _ e3 r3 ⟨(kk kx, w) :: kvs, by rw [DenC.key (.inl dx) qk, e4]; rfl, .cons (d2.ext r2 e3) dk⟩
theorem DenK.merge {F : Fg} {W : Wd} {H : Hp} : ∀ {kvs : List (Key × V)} {m : List (K × D)} {acc : List (Key × V)} {bcc : List (K × D)}, DenK F W H kvs m → DenK F W H acc bcc → DenK F W H (mergeK acc kvs) (m.foldl (fun acc p => dput acc p.1 p.2) bcc)
  | _, _, _, _, .nil, h => h
  | _, _, _, _, @DenK.cons _ _ _ k _ _ _ _ d r, h => by
    have z := DenK.merge r (DenK.put d k h)
    exact z
theorem sf_disp {keys : List (Option Expr)} {values : List Expr} {ps : List (Ex × Ex)} (h : PPs X pos keys values (ps.map fun p => (tev X.K Wx g p.1, tev X.K Wx g p.2))) (hall : keys.all (·.isSome) = true) (hl : keys.length = values.length) (h0 : keys ≠ []) (h15 : keys.length ≤ 15) (hlen : ∀ g s m s', pairsE ps g s = .ok m s' → m.length ≤ 15) :
    PE X (.Dict keys values pos) (tfr X.K Wx g (dicE ps)) := by
  refine (pe_disp h hall hl h0 h15).mono fun σ H Q ⟨W, s, r, p⟩ b hb => ?_
  have p : PostFr X.K Wx W s σ H Q ((pairsE ps g s).bind fun m s => .ok (.dic (m.foldl (fun acc p => dput acc p.1 p.2) [])) s) := p
  have r1 : Rel X.K W s σ (upd H b (.dK [])) := r.new hb
  have A1 : Acc X.K W s σ (upd H b (.dK [])) b (.dic []) := Acc.new r hb ⟨[], upd_same, .nil⟩
  refine pairs_run rfl r1 ?_
  cases q : pairsE ps g s with
  | bad => rw [q] at p; exact p
  | exc x s1 => rw [q] at p; exact fun W' H' c d e' r' x' => p W' H' c d ((Ext.new hb).trans e') r' x'
  | ok m s1 =>
    rw [q] at p
    intro W2 H2 pp e2 r2 ⟨kvs, e3, dk⟩
    have A2 := A1.ext r1 e2
    obtain ⟨vs, hv, dv⟩ := A2.ob
    have hv0 : vs = [] := by
      have := (e2.keep b _ upd_same A1.no A1.nr).1.same A1.nf
      rw [hv] at this
      cases this
      rfl
    subst hv0
    refine ⟨hv, kvs, e3, by rw [dk.length]; exact hlen _ _ _ _ q, ?_⟩
    exact p W2 _ b hb (((Ext.new hb).trans e2).touch hb) (A2.rel_touch r2) ⟨⟨_, upd_same, DenK.merge (dk.stab A2.stab_touch) .nil⟩, A2.nf, A2.nr, A2.no⟩
theorem pairs_len : ∀ {ps : List (Ex × Ex)} {g : G} {s s' : S} {m : List (K × D)}, pairsE ps g s = .ok m s' → m.length = ps.length
  | [], g, s, s', m, h => by cases h; rfl
  | (k, v) :: ps, g, s, s', m, h => by
    unfold pairsE at h
    cases q1 : k g s with
    | bad => simp only [q1, Res.bind, reduceCtorEq] at h
    | exc x s1 => simp only [q1, Res.bind, reduceCtorEq] at h
    | ok x s1 =>
      cases q2 : v g s1 with
      | bad => simp only [q1, q2, Res.bind, reduceCtorEq] at h
      | exc x s1 => simp only [q1, q2, Res.bind, reduceCtorEq] at h
      | ok y s2 =>
        cases q3 : pairsE ps g s2 with
        | bad => simp only [q1, q2, q3, Res.bind, reduceCtorEq] at h
        | exc x s1 => simp only [q1, q2, q3, Res.bind, reduceCtorEq] at h
        | ok n s3 =>
          simp only [q1, q2, q3, Res.bind] at h
          cases q4 : key? x with
          | none => simp only [q4, reduceCtorEq] at h
          | some kx =>
            simp only [q4, Res.ok.injEq] at h
            rw [← h.1, List.length_cons, List.length_cons, pairs_len q3]

/-! ### a thing just made is shared -/
def Wd.sh (W : Wd) (n : Nat) (a : Addr) : Wd := { W with ref := fun m => if m = n then some a else W.ref m }
theorem share {F : Fg} {W : Wd} {s : S} {σ : St} {H : Hp} {a : Addr} {ob : Ob} (r : Rel F W s σ H) (A : Acc F W s σ H a (obD ob)) (nb : noRO 0 ob = true) :
    Rel F (W.sh s.h.length a) { s with h := s.h ++ [ob] } σ H ∧ ∀ {W0 : Wd} {s0 : S} {H0 : Hp}, H0 a = none → Ext W0 s0 σ H0 W s σ H → Ext W0 s0 σ H0 (W.sh s.h.length a) { s with h := s.h ++ [ob] } σ H := by
  have old : ∀ n b, W.ref n = some b → n < s.h.length := fun n b e => let ⟨_, o, q, _⟩ := r.hp.refs n b e; (List.getElem?_eq_some_iff.mp q).1
  have up : ∀ n b, W.ref n = some b → (W.sh s.h.length a).ref n = some b := fun n b e => by
    show (if n = s.h.length then _ else _) = _
    rw [if_neg (Nat.ne_of_lt (old n b e))]; exact e
  have t : Stab W H (W.sh s.h.length a) H := ⟨fun _ h => ⟨h, keep_frz rfl⟩, fun _ _ h => h, fun _ _ _ h => h, up⟩
  have down : ∀ n b, (W.sh s.h.length a).ref n = some b → (n = s.h.length ∧ b = a) ∨ (n < s.h.length ∧ W.ref n = some b) := fun n b e => by
    have e : (if n = s.h.length then some a else W.ref n) = some b := e
    by_cases z : n = s.h.length
    · rw [if_pos z] at e; cases e; exact .inl ⟨z, rfl⟩
    · rw [if_neg z] at e; exact .inr ⟨old n b e, e⟩
  refine ⟨⟨r.len, fun i d h => ?_, fun i d h => ?_, r.sep, fun b hb => r.hp.frz b hb, fun n b hb => ?_, fun n o hn => ?_, fun n m b h1 h2 => ?_, fun n o hn => ?_⟩, fun {W0 s0 H0} h0 e => ⟨fun n b h => up n b (e.ref n b h), e.frz, fun b o hb no nr => ?_, e.own, e.trk⟩⟩
  · obtain ⟨v, e1, q⟩ := r.val i d h
    exact ⟨v, e1, q.stab t⟩
  · obtain ⟨b, e1, q, nf, nr⟩ := r.own i d h
    refine ⟨b, e1, q.stab t rfl, nf, fun n hn => ?_⟩
    rcases down n b hn with ⟨_, rfl⟩ | ⟨_, z⟩
    · exact A.no ⟨i, d, h, e1⟩
    · exact nr n z
  · rcases down n b hb with ⟨rfl, rfl⟩ | ⟨lt, z⟩
    · exact ⟨A.nf, ob, by show (s.h ++ [ob])[s.h.length]? = _; simp, A.ob.stab t rfl⟩
    · obtain ⟨nf, o, q1, q2⟩ := r.hp.refs n b z
      exact ⟨nf, o, by show (s.h ++ [ob])[n]? = _; rw [List.getElem?_append_left lt]; exact q1, q2.stab t rfl⟩
  · have hn : (s.h ++ [ob])[n]? = some o := hn
    by_cases z : n < s.h.length
    · rw [List.getElem?_append_left z] at hn
      obtain ⟨b, hb⟩ := r.hp.all n o hn
      exact ⟨b, up n b hb⟩
    · have : n = s.h.length := by
        have := (List.getElem?_eq_some_iff.mp hn).1
        rw [List.length_append, List.length_singleton] at this
        omega
      exact ⟨a, by show (if n = s.h.length then some a else _) = _; rw [if_pos this]⟩
  · rcases down n b h1 with ⟨z1, e1⟩ | ⟨z1, e1⟩
    · rcases down m b h2 with ⟨z2, e2⟩ | ⟨z2, e2⟩
      · rw [z1, z2]
      · exact absurd (e1 ▸ e2) (A.nr m)
    · rcases down m b h2 with ⟨z2, e2⟩ | ⟨z2, e2⟩
      · exact absurd (e2 ▸ e1) (A.nr n)
      · exact r.hp.inj n m b e1 e2
  · have hn : (s.h ++ [ob])[n]? = some o := hn
    by_cases z : n < s.h.length
    · rw [List.getElem?_append_left z] at hn
      exact r.hp.nor n o hn
    · rw [List.getElem?_append_right (by omega)] at hn
      cases q : n - s.h.length with
      | zero => rw [q] at hn; cases hn; exact nb
      | succ k => rw [q] at hn; cases hn
  · obtain ⟨k1, k2, k3⟩ := e.keep b o hb no nr
    refine ⟨k1, k2, fun n hn => ?_⟩
    rcases down n b hn with ⟨_, rfl⟩ | ⟨_, z⟩
    · rw [h0] at hb; cases hb
    · exact k3 n z
theorem se_ref {e : Expr} {c : Ex} (h : PE X e (tfr X.K Wx g c)) : PE X e (tev X.K Wx g (refE c)) := by
  refine h.mono fun σ H Q ⟨W, s, r, p⟩ => ⟨W, s, r, ?_⟩
  have p : Post X.K Wx (Den X.K) W s σ H Q ((c g s).bind fun d s => match d with
    | .dic l => if noRK 0 l then .ok (.ref s.h.length) { s with h := s.h ++ [.dic l] } else .bad
    | .lst l => if noRL 0 l then .ok (.ref s.h.length) { s with h := s.h ++ [.lst l] } else .bad
    | .dit l => if noRT 0 l then .ok (.ref s.h.length) { s with h := s.h ++ [.dit l] } else .bad
    | _ => .bad) := p
  cases q : c g s with
  | bad => rw [q] at p; exact p
  | exc x s1 => rw [q] at p; exact p
  | ok d s1 =>
    rw [q] at p
    intro W1 H1 a n e1 r1 A
    have den : ∀ ob : Ob, d = obD ob → noRO 0 ob = true → Rel X.K (W1.sh s1.h.length a) { s1 with h := s1.h ++ [ob] } σ H1 ∧ Ext W s σ H (W1.sh s1.h.length a) { s1 with h := s1.h ++ [ob] } σ H1 ∧ Den X.K (W1.sh s1.h.length a) H1 (.ref a) (.ref s1.h.length) := fun ob e nb => by
      subst e
      obtain ⟨x1, x2⟩ := share r1 A nb
      exact ⟨x1, x2 n e1, .ref (by show (if s1.h.length = s1.h.length then some a else _) = _; rw [if_pos rfl])⟩
    cases d with
    | dic l =>
      cases z : noRK 0 l with
      | false => simp only [Res.bind, z, Bool.false_eq_true, if_false] at p; exact p.elim
      | true =>
        simp only [Res.bind, z, if_true] at p
        obtain ⟨x1, x2, x3⟩ := den (.dic l) rfl z
        exact p _ _ _ x2 x1 x3
    | lst l =>
      cases z : noRL 0 l with
      | false => simp only [Res.bind, z, Bool.false_eq_true, if_false] at p; exact p.elim
      | true =>
        simp only [Res.bind, z, if_true] at p
        obtain ⟨x1, x2, x3⟩ := den (.lst l) rfl z
        exact p _ _ _ x2 x1 x3
    | dit l =>
      cases z : noRT 0 l with
      | false => simp only [Res.bind, z, Bool.false_eq_true, if_false] at p; exact p.elim
      | true =>
        simp only [Res.bind, z, if_true] at p
        obtain ⟨x1, x2, x3⟩ := den (.dit l) rfl z
        exact p _ _ _ x2 x1 x3
    | _ => exact A.ob.elim
end
end Cy

set_option Elab.async false
set_option linter.all false
set_option maxRecDepth 100000
/-! Cy: several names at once: values, and things just made. -/
namespace Cy
open L2 PySem PySem.Spec PyProof.Rows

/-- the addresses of what was just made -/
def ownAs : List V → List Sl → List Addr
  | .ref a :: vs, .own _ :: sl => a :: ownAs vs sl
  | _ :: vs, _ :: sl => ownAs vs sl
  | _, _ => []
/-- a row of slots' things, as they stand -/
inductive RowOk (F : Fg) (W : Wd) (s : S) (σ : St) (H0 H : Hp) : List V → List Sl → Prop
  | nil : RowOk F W s σ H0 H [] []
  | val {v : V} {vs : List V} {d : D} {sl : List Sl} : Den F W H v d → RowOk F W s σ H0 H vs sl → RowOk F W s σ H0 H (v :: vs) (.val d :: sl)
  | own {a : Addr} {vs : List V} {d : D} {sl : List Sl} : H0 a = none → Acc F W s σ H a d → a ∉ ownAs vs sl → RowOk F W s σ H0 H vs sl → RowOk F W s σ H0 H (.ref a :: vs) (.own d :: sl)
section
variable {F : Fg} {Wx : WX} {g : G} {W W1 W2 : Wd} {s s1 s2 : S} {σ : St} {H H1 H2 : Hp}
theorem RowOk.fresh {vs : List V} {sl : List Sl} (h : RowOk F W s σ H1 H vs sl) : ∀ a ∈ ownAs vs sl, H1 a = none := by
  induction h with
  | nil => intro a ha; cases ha
  | val _ _ ih => intro a ha; exact ih a (by simpa [ownAs] using ha)
  | own n _ _ _ ih =>
    intro a ha
    simp only [ownAs, List.mem_cons] at ha
    rcases ha with rfl | ha
    · exact n
    · exact ih a ha
theorem RowOk.back {H0 : Hp} {vs : List V} {sl : List Sl} (h : RowOk F W s σ H1 H vs sl) (t : ∀ b, H1 b = none → H0 b = none) : RowOk F W s σ H0 H vs sl := by
  induction h with
  | nil => exact .nil
  | val d _ ih => exact .val d ih
  | own n a z _ ih => exact .own (t _ n) a z ih
/-- what was made lives on -/
theorem Acc.later {a : Addr} {d : D} (A : Acc F W1 s1 σ H1 a d) (r1 : Rel F W1 s1 σ H1) (e : Ext W1 s1 σ H1 W2 s2 σ H2) : Acc F W2 s2 σ H2 a d := by
  obtain ⟨o, ho, lo⟩ := A.ob.some
  obtain ⟨k, fz, nr⟩ := e.keep a o ho A.no A.nr
  have same : H2 a = H1 a := (k.same A.nf).trans ho.symm
  exact ⟨A.ob.stab (e.stab r1) same, fun z => A.nf (fz z), nr, fun z => A.no (e.own a (by rw [ho]; exact Option.some_ne_none _) z)⟩
/-- the reading of such a row -/
def tRow (F : Fg) (Wx : WX) (g : G) : List (Bool × Ex) → TA
  | [] => tNil
  | (b, e) :: r => tCons (if b then tfr F Wx g e else tev F Wx g e) (tRow F Wx g r)
def PostR (F : Fg) (Wx : WX) (W : Wd) (s : S) (σ : St) (H : Hp) (Q : List V → Hp → Prop) : Res (List Sl) → Prop
  | .bad => False
  | .ok sl s' => ∀ W' H' vs, Ext W s σ H W' s' σ H' → Rel F W' s' σ H' → RowOk F W' s' σ H H' vs sl → Q vs H'
  | .exc x s' => ∀ W' H' cls dct, Ext W s σ H W' s' σ H' → Rel F W' s' σ H' → ExcD F W' H' x cls dct → Wx cls dct σ H'
theorem row_run : ∀ (row : List (Bool × Ex)) {W : Wd} {s : S} {H : Hp} {Q : List V → Hp → Prop}, Rel F W s σ H → PostR F Wx W s σ H Q (rowS row g s) → tRow F Wx g row σ H Q
  | [], W, s, H, Q, r, p => p W H [] Ext.refl r .nil
  | (b, e) :: row, W, s, H, Q, r, p => by
    unfold rowS at p
    cases b with
    | false =>
      show tev F Wx g e σ H _
      refine ⟨W, s, r, ?_⟩
      cases q : e g s with
      | bad => rw [q] at p; exact p
      | exc x s1 => rw [q] at p; exact p
      | ok d s1 =>
        rw [q] at p
        intro W1 H1 v e1 r1 d1
        refine row_run row r1 ?_
        have p : PostR F Wx W s σ H Q ((rowS row g s1).bind fun l s => .ok ((if false = true then .own d else .val d) :: l) s) := p
        cases q2 : rowS row g s1 with
        | bad => rw [q2] at p; exact p
        | exc x s2 => rw [q2] at p; exact fun W' H' c dc e' r' x' => p W' H' c dc (e1.trans e') r' x'
        | ok sl s2 =>
          rw [q2] at p
          exact fun W' H' vs e' r' k' => p W' H' (v :: vs) (e1.trans e') r' (.val (d1.ext r1 e') (k'.back e1.trk))
    | true =>
      show tfr F Wx g e σ H _
      refine ⟨W, s, r, ?_⟩
      cases q : e g s with
      | bad => rw [q] at p; exact p
      | exc x s1 => rw [q] at p; exact p
      | ok d s1 =>
        rw [q] at p
        intro W1 H1 a n e1 r1 A
        refine row_run row r1 ?_
        have p : PostR F Wx W s σ H Q ((rowS row g s1).bind fun l s => .ok ((if true = true then .own d else .val d) :: l) s) := p
        cases q2 : rowS row g s1 with
        | bad => rw [q2] at p; exact p
        | exc x s2 => rw [q2] at p; exact fun W' H' c dc e' r' x' => p W' H' c dc (e1.trans e') r' x'
        | ok sl s2 =>
          rw [q2] at p
          refine fun W' H' vs e' r' k' => p W' H' (.ref a :: vs) (e1.trans e') r' (.own n (A.later r1 e') (fun z => ?_) (k'.back e1.trk))
          obtain ⟨o, ho, _⟩ := A.ob.some
          have := k'.fresh a z
          rw [this] at ho; cases ho
/-- it is stored -/
def putV : List Nat → List V → St → St
  | i :: is, v :: vs, σ => putV is vs (σ.set i (some v))
  | _, _, σ => σ
theorem parPut_run {H0 : Hp} : ∀ (is : List Nat) {vs : List V} {sl : List Sl} {s : S} {σ : St} {sg : List Sl}, Rel F W s σ H → RowOk F W s σ H0 H vs sl → putAll is sl s.sg = some sg →
    Rel F W { s with sg := sg } (putV is vs σ) H ∧ (∀ b, H0 b ≠ none → OwnAt { s with sg := sg } (putV is vs σ) b → OwnAt s σ b) ∧ is.length = vs.length
  | [], _, _, s, σ, sg, r, .nil, e => by
    cases e
    exact ⟨r, fun _ _ h => h, rfl⟩
  | [], _, _, s, σ, sg, r, .val _ _, e => by cases e
  | [], _, _, s, σ, sg, r, .own _ _ _ _, e => by cases e
  | i :: is, _, _, s, σ, sg, r, .nil, e => by cases e
  | i :: is, _, _, s, σ, sg, r, .val (v := v) (vs := vs) (d := d) (sl := sl) dv k, e => by
    unfold putAll at e
    by_cases hi : i < s.sg.length
    · rw [if_pos hi] at e
      obtain ⟨r2, e2⟩ := r.store hi dv
      have k2 : RowOk F W { s with sg := s.sg.set i (.val d) } (σ.set i (some v)) H0 H vs sl := by
        clear e
        induction k with
        | nil => exact .nil
        | val d _ ih => exact .val d ih
        | own n A z k ih => exact .own n ⟨A.ob, A.nf, A.nr, fun w => A.no (e2.own _ (by obtain ⟨o, ho, _⟩ := A.ob.some; rw [ho]; exact Option.some_ne_none _) w)⟩ z ih
      obtain ⟨r3, o3, l3⟩ := parPut_run is (s := { s with sg := s.sg.set i (.val d) }) r2 k2 e
      refine ⟨r3, fun b hb w => ?_, by rw [List.length_cons, List.length_cons, l3]⟩
      have w2 := o3 b hb w
      by_cases hH : H b = none
      · obtain ⟨j, d', h1, h2⟩ := w2
        obtain ⟨a', e', q', _⟩ := r2.own j d' h1
        rw [h2] at e'; cases e'
        obtain ⟨o, ho, _⟩ := q'.some
        rw [hH] at ho; cases ho
      · exact e2.own b hH w2
    · rw [if_neg hi] at e; cases e
  | i :: is, _, _, s, σ, sg, r, .own (a := a) (vs := vs) (d := d) (sl := sl) n A z k, e => by
    unfold putAll at e
    by_cases hi : i < s.sg.length
    · rw [if_pos hi] at e
      have r2 := r.storeOwn hi A.ob A.nf A.nr A.no
      have own2 : ∀ b, OwnAt { s with sg := s.sg.set i (.own d) } (σ.set i (some (.ref a))) b → b = a ∨ OwnAt s σ b := by
        rintro b ⟨j, d', h1, h2⟩
        rw [setV_get (r.len ▸ hi)] at h2
        by_cases w : j = i
        · rw [if_pos w] at h2; cases h2; exact .inl rfl
        · rw [if_neg w] at h2
          rcases set_get h1 with ⟨w', _⟩ | ⟨_, h1⟩
          · exact absurd w' w
          · exact .inr ⟨j, d', h1, h2⟩
      have k2 : RowOk F W { s with sg := s.sg.set i (.own d) } (σ.set i (some (.ref a))) H0 H vs sl := by
        clear e
        induction k with
        | nil => exact .nil
        | val d _ ih => exact .val d (ih (by simpa [ownAs] using z))
        | own n' A' z' k ih =>
          simp only [ownAs, List.mem_cons, not_or] at z
          refine .own n' ⟨A'.ob, A'.nf, A'.nr, fun w => ?_⟩ z' (ih z.2)
          rcases own2 _ w with w | w
          · exact z.1 w.symm
          · exact A'.no w
      obtain ⟨r3, o3, l3⟩ := parPut_run is (s := { s with sg := s.sg.set i (.own d) }) r2 k2 e
      refine ⟨r3, fun b hb w => ?_, by rw [List.length_cons, List.length_cons, l3]⟩
      rcases own2 b (o3 b hb w) with w | w
      · rw [w] at hb; exact absurd n hb
      · exact w
    · rw [if_neg hi] at e; cases e
theorem par_run {is : List Nat} {row : List (Bool × Ex)} {En : Ends} (h : tst F Wx g (parS is row) En σ H) {Q : List V → Hp → Prop} (imp : ∀ vs H1, is.length = vs.length → En.nx (putV is vs σ) H1 → Q vs H1) :
    tRow F Wx g row σ H Q := by
  obtain ⟨W, s, r, p⟩ := h
  refine row_run row r ?_
  unfold parS at p
  cases q : rowS row g s with
  | bad => rw [q] at p; exact p
  | exc x s1 => rw [q] at p; exact fun W' H' c d e' r' x' => p W' σ H' c d e' r' x'
  | ok sl s1 =>
    rw [q] at p
    intro W1 H1 vs e1 r1 k1
    have p : PostF F Wx W s σ H En (match putAll is sl s1.sg with | some σ => Fl.nx { s1 with sg := σ } | none => .bad) := p
    cases q2 : putAll is sl s1.sg with
    | none => rw [q2] at p; exact p.elim
    | some sg =>
      rw [q2] at p
      obtain ⟨r2, o2, l2⟩ := parPut_run is r1 k1 q2
      refine imp _ _ l2 (p W1 _ H1 ⟨e1.ref, e1.frz, e1.keep, fun b hb w => e1.own b hb (o2 b hb w), e1.trk⟩ r2)
end
section
variable {X : Cx} {Wx : WX} {g : G} {pos px py pz pt pt2 : Pos} {kt k2 : Nat} {i j l : Nat} {x y z : Str} {a b c : Expr} {fa fb fc : Bool} {ca cb ce : Ex}
/-- an expression, as a value or just made -/
def PEb (X : Cx) (Wx : WX) (g : G) (e : Expr) (b : Bool) (c : Ex) : Prop := PE X e (if b then tfr X.K Wx g c else tev X.K Wx g c)
theorem ss_par2 (cc : Cc X Wx) (hi : X.N[i]? = some x) (hj : X.N[j]? = some y) (hij : i ≠ j) (hx : X.env.scope.names.lookup x = some .local) (hy : X.env.scope.names.lookup y = some .local)
    (ha : PEb X Wx g a fa ca) (hb : PEb X Wx g b fb cb) (sa : isStar a = false) (sb : isStar b = false)
    (hw : swappedStores [.Tuple [.Name x px, .Name y py] kt pt] (.Tuple [a, b] k2 pt2) X.env = pure (some [x, y])) : PS X (.Assign [.Tuple [.Name x px, .Name y py] kt pt] (.Tuple [a, b] k2 pt2) pos) (tst X.K Wx g (parS [i, j] [(fa, ca), (fb, cb)])) := by
  have row : PA X [a, b] (tRow X.K Wx g [(fa, ca), (fb, cb)]) := pa_cons ha (pa_cons hb pa_nil (starEach_of sb)) (starEach_of sa)
  refine (ps_par cc.calm cc.nd hi hj hij hx hy row hw rfl).mono fun D σ H h => par_run h fun vs H1 l n => ?_
  match vs, l, n with
  | [v, w], _, n => exact ⟨v, w, rfl, n⟩
theorem ss_par3 (cc : Cc X Wx) (hi : X.N[i]? = some x) (hj : X.N[j]? = some y) (hl : X.N[l]? = some z) (hij : i ≠ j) (hil : i ≠ l) (hjl : j ≠ l) (hx : X.env.scope.names.lookup x = some .local) (hy : X.env.scope.names.lookup y = some .local) (hz : X.env.scope.names.lookup z = some .local)
    (ha : PEb X Wx g a fa ca) (hb : PEb X Wx g b fb cb) (hc : PEb X Wx g c fc ce) (sa : isStar a = false) (sb : isStar b = false) (sc : isStar c = false)
    (hw : swappedStores [.Tuple [.Name x px, .Name y py, .Name z pz] kt pt] (.Tuple [a, b, c] k2 pt2) X.env = pure (some [x, y, z])) : PS X (.Assign [.Tuple [.Name x px, .Name y py, .Name z pz] kt pt] (.Tuple [a, b, c] k2 pt2) pos) (tst X.K Wx g (parS [i, j, l] [(fa, ca), (fb, cb), (fc, ce)])) := by
  have row : PA X [a, b, c] (tRow X.K Wx g [(fa, ca), (fb, cb), (fc, ce)]) := pa_cons ha (pa_cons hb (pa_cons hc pa_nil (starEach_of sc)) (starEach_of sb)) (starEach_of sa)
  refine (ps_par3 cc.calm cc.nd hi hj hl hij hil hjl hx hy hz row hw rfl).mono fun D σ H h => par_run h fun vs H1 l n => ?_
  match vs, l, n with
  | [v, w, u], _, n => exact ⟨v, w, u, rfl, n⟩
end
end Cy

set_option Elab.async false
set_option linter.all false
set_option maxRecDepth 100000
/-! Cy: d.get(k, x), d.setdefault(k, x). -/
namespace Cy
open L2 PySem PySem.Spec PyProof.Rows

section
variable {F : Fg} {W : Wd} {s : S} {σ : St} {H : Hp} {v : V} {d : D}
theorem isDic_at (r : Rel F W s σ H) (h : DenC F W H v d) (e : isDic s.h d = true) : ∃ a, v = .ref a ∧ IsD H a := by
  cases d with
  | dic l =>
    obtain ⟨a, vs, rfl, hr, _⟩ := h.dic
    exact ⟨a, rfl, .inl ⟨vs, hr⟩⟩
  | dit l =>
    obtain ⟨a, vs, rfl, hr, _⟩ := h.dit
    exact ⟨a, rfl, .inr ⟨vs, hr⟩⟩
  | ref n =>
    obtain ⟨a, rfl, hn⟩ := h.ref
    obtain ⟨_, ob, e1, q⟩ := r.hp.refs n a hn
    have e : (match s.h[n]? with | some (.dic _) => true | some (.dit _) => true | _ => false) = true := e
    rw [e1] at e
    cases ob with
    | dic l =>
      obtain ⟨vs, ha, _⟩ := q
      exact ⟨a, rfl, .inl ⟨vs, .inl ha⟩⟩
    | dit l =>
      obtain ⟨vs, ha, _⟩ := q
      exact ⟨a, rfl, .inr ⟨vs, .inl ha⟩⟩
    | lst l => cases e
  | _ => cases e
theorem getK_at {l : List (K × D)} {y : V} {e u z : D} {w : V} (h : DenC F W H v (.dic l)) (hy : DenC F W H y e) (hw : Den F W H w u) (q : getK l e u = some z) : ∃ a o, v = .ref a ∧ DGet H a y o ∧ Den F W H (o.getD w) z := by
  unfold getK at q
  cases ke : key? e with
  | none => rw [ke] at q; cases q
  | some k =>
    rw [ke] at q
    cases q
    obtain ⟨a, o, ev, dg, m⟩ := h.dg hy ke
    refine ⟨a, o, ev, dg, ?_⟩
    cases g : dget l k with
    | none => rw [g] at m; subst m; exact hw
    | some d' =>
      rw [g] at m
      obtain ⟨x, rfl, dx⟩ := m
      exact dx
theorem getT_at {l : List (List K × D)} {y : V} {e u z : D} {w : V} (h : DenC F W H v (.dit l)) (hy : DenC F W H y e) (hw : Den F W H w u) (q : getT l e u = some z) : ∃ a o, v = .ref a ∧ DGet H a y o ∧ Den F W H (o.getD w) z := by
  unfold getT at q
  cases ke : keys? e with
  | none => rw [ke] at q; cases q
  | some k =>
    rw [ke] at q
    cases q
    obtain ⟨a, o, ev, dg, m⟩ := h.dgT hy ke
    refine ⟨a, o, ev, dg, ?_⟩
    cases g : dget l k with
    | none => rw [g] at m; subst m; exact hw
    | some d' =>
      rw [g] at m
      obtain ⟨x, rfl, dx⟩ := m
      exact dx
theorem dGet_at {y : V} {e u z : D} {w : V} (r : Rel F W s σ H) (h : DenC F W H v d) (hy : DenC F W H y e) (hw : Den F W H w u) (q : dGet s.h d e u = some z) : ∃ a o, v = .ref a ∧ DGet H a y o ∧ Den F W H (o.getD w) z := by
  cases d with
  | dic l => exact getK_at h hy hw q
  | dit l => exact getT_at h hy hw q
  | ref n =>
    obtain ⟨a, rfl, hn⟩ := h.ref
    obtain ⟨_, ob, e1, _⟩ := r.hp.refs n a hn
    have hob := r.hp.ob hn e1
    have q : (match s.h[n]? with | some (.dic l) => getK l e u | some (.dit l) => getT l e u | _ => none) = some z := q
    rw [e1] at q
    cases ob with
    | dic l => exact getK_at hob hy hw q
    | dit l => exact getT_at hob hy hw q
    | lst l => cases q
  | _ => cases q
end
section
variable {X : Cx} {Wx : WX} {g : G} {apos cpos px : Pos} {o e f : Expr} {oa ob : Op} {c ck : Ex}
theorem get_run {F : Fg} {σ : St} {H : Hp} {Q : VK} (h : tev F Wx g (getE oa ob c) σ H Q) : tDGet2 (top F Wx g oa) (top F Wx g ob) (tev F Wx g c) σ H Q := by
  obtain ⟨W, s, rl, p⟩ := h
  refine top_bind rl p fun x s1 W1 H1 v e1 r1 o1 p1 => ?_
  cases q : oa.rd x s1 with
  | none => rw [q] at p1; exact p1.elim
  | some d0 =>
    simp only [q] at p1
    by_cases z : isDic s1.h d0 = true
    · rw [if_pos z] at p1
      obtain ⟨a, ev, hd⟩ := isDic_at r1 (o1.den r1 q) z
      refine ⟨a, ev, hd, ?_⟩
      refine top_bind r1 p1 fun y s2 W2 H2 u e2 r2 o2 p2 => ?_
      refine tr_bind (De := Den F) r2 p2 fun w s3 W3 H3 wv e3 r3 dw p3 => ?_
      cases q1 : oa.rd x s3 with
      | none => simp only [q1] at p3; exact p3.elim
      | some d =>
        cases q2 : ob.rd y s3 with
        | none => simp only [q1, q2] at p3; exact p3.elim
        | some k =>
          simp only [q1, q2] at p3
          cases q3 : dGet s3.h d k w with
          | none => simp only [q3] at p3; exact p3.elim
          | some z =>
            simp only [q3] at p3
            obtain ⟨a', o', ev', dg, dz⟩ := dGet_at r3 ((o1.ext r1 (e2.trans e3)).den r3 q1) ((o2.ext r2 e3).den r3 q2) dw q3
            rw [ev] at ev'
            cases ev'
            exact ⟨o', dg, p3 _ _ _ Ext.refl r3 dz⟩
    · rw [if_neg z] at p1; exact p1.elim
theorem starEach2 {env : Env} (h1 : isStar e = false) (h2 : isStar f = false) : starEach [e, f] env = [(false, eval e env), (false, eval f env)] := by
  rw [starEach_of h1, starEach_of h2]; rfl
theorem m2_of {name : Str} {b : Str} (h1 : isStar e = false) (h2 : isStar f = false) (hl : (apos.endLine == cpos.line) = true) (hb : attributeBase o name X.env (eval o X.env) = eval o X.env) : M2 X o name apos e f cpos := by
  refine ⟨hb, ?_, hl, ?_⟩
  · rw [starEach2 h1 h2]; rfl
  · rw [starEach2 h1 h2]; rfl
theorem se_get (hu : X.A.units + 200 < cLine) (ho : PE X o (top X.K Wx g oa)) (he : PE X e (top X.K Wx g ob)) (hf : PE X f (tev X.K Wx g c)) (h1 : isStar e = false) (h2 : isStar f = false) (hl : (apos.endLine == cpos.line) = true) (hb : attributeBase o "get" X.env (eval o X.env) = eval o X.env) :
    PE X (.Call (.Attribute o "get" apos) [e, f] [] cpos) (tev X.K Wx g (getE oa ob c)) :=
  (pe_dget2 (by omega) ho he hf (m2_of (b := "") h1 h2 hl hb)).mono fun _ _ _ h => get_run h
/-- a dict at hand -/
theorem Rel.dicOf {F : Fg} {W : Wd} {s : S} {σ : St} {H : Hp} (r : Rel F W s σ H) {i : Nat} {l : List (K × D)} (h : dicOf s i = some l) : ∃ a vs, σ[i]? = some (some (.ref a)) ∧ H a = some (.dK vs) ∧ DenK F W H vs l ∧
    ∀ ws m, okSt s i (noRK 0 m) = true → (Stab W H W (upd H a (.dK ws)) → DenK F W (upd H a (.dK ws)) ws m) → Rel F W (putDic s i m) σ (upd H a (.dK ws)) ∧ Ext W s σ H W (putDic s i m) σ (upd H a (.dK ws)) ∧ Stab W H W (upd H a (.dK ws)) := by
  unfold Cy.dicOf at h
  unfold putDic
  cases q : s.sg[i]? with
  | none => rw [q] at h; cases h
  | some c =>
    rw [q] at h
    cases c with
    | no => cases h
    | own d =>
      cases d with
      | dic l' =>
        cases h
        obtain ⟨a, e, ⟨vs, ha, dl⟩, _⟩ := r.own i _ q
        exact ⟨a, vs, e, ha, dl, fun ws m _ k => r.setOwn q e fun t => ⟨ws, upd_same, k t⟩⟩
      | _ => cases h
    | val d =>
      cases d with
      | ref n =>
        have h : (match s.h[n]? with | some (.dic l) => some l | _ => none) = some l := h
        obtain ⟨v, e, dv⟩ := r.val i _ q
        obtain ⟨a, rfl, hn⟩ := DenC.ref (.inl dv)
        cases qo : s.h[n]? with
        | none => rw [qo] at h; cases h
        | some ob =>
          rw [qo] at h
          cases ob with
          | dic l' =>
            cases h
            obtain ⟨_, ob1, q1, w⟩ := r.hp.refs n a hn
            rw [qo] at q1; cases q1
            obtain ⟨vs, ha, dl⟩ := w
            exact ⟨a, vs, e, ha, dl, fun ws m nb k => r.setRef hn qo (by unfold okSt at nb; rw [q] at nb; exact nb) fun t => ⟨ws, upd_same, k t⟩⟩
          | _ => cases h
      | _ => cases h
theorem Rel.okD {F : Fg} {W : Wd} {s : S} {σ : St} {H : Hp} (r : Rel F W s σ H) {i : Nat} {l : List (K × D)} (h : Cy.dicOf s i = some l) : okSt s i (noRK 0 l) = true := by
  unfold Cy.dicOf at h
  unfold okSt
  split at h
  · rename_i q; rw [q]
  · rename_i n q
    rw [q]
    split at h
    · rename_i q2; cases h; exact r.hp.nor _ _ q2
    · cases h
  · cases h
theorem sdef_run {F : Fg} {i : Nat} {σ : St} {H : Hp} {Q : VK} (h : tev F Wx g (sdefE i ck c) σ H Q) : tDSetd (tVar i) (tev F Wx g ck) (tev F Wx g c) σ H Q := by
  obtain ⟨W, s, rl, p⟩ := h
  unfold sdefE at p
  by_cases z : (Cy.dicOf s i).isSome = true
  · rw [if_pos z] at p
    obtain ⟨l0, h0⟩ := isSome_ex z
    obtain ⟨a, vs0, e, ha, dl, _⟩ := rl.dicOf h0
    refine ⟨.ref a, e, a, rfl, .inl ⟨vs0, .inl ha⟩, ?_⟩
    refine tr_bind (De := Den F) rl p fun x s1 W1 H1 v e1 r1 d1 p1 => ?_
    refine tr_bind (De := Den F) r1 p1 fun y s2 W2 H2 u e2 r2 d2 p2 => ?_
    have d1' := d1.ext r1 e2
    cases q : Cy.dicOf s2 i with
    | none => simp only [q] at p2; exact p2.elim
    | some l =>
      simp only [q] at p2
      obtain ⟨a', vs, e', ha', dl', st⟩ := r2.dicOf q
      rw [e] at e'; cases e'
      cases kx : key? x with
      | none => simp only [kx] at p2; exact p2.elim
      | some k =>
        simp only [kx] at p2
        have ek : v = kV (kk k) := DenC.key (.inl d1') kx
        have gv := dl'.get k
        cases gd : dget l k with
        | some d =>
          simp only [gd] at p2 gv
          obtain ⟨w, hw, dw⟩ := gv
          by_cases hlen : l.length < lim
          · simp only [if_pos hlen] at p2
            exact ⟨vs, kk k, ha', ek, by rw [dl'.length]; exact hlen, fun w' hw' => by rw [hw] at hw'; cases hw'; exact p2 _ _ _ Ext.refl r2 dw, fun hn => by rw [hw] at hn; cases hn⟩
          · simp only [if_neg hlen] at p2; exact p2.elim
        | none =>
          simp only [gd] at p2 gv
          by_cases hlen : l.length < lim ∧ okSt s2 i (noR 0 y) = true
          · simp only [if_pos hlen] at p2
            refine ⟨vs, kk k, ha', ek, by rw [dl'.length]; exact hlen.1, fun w' hw' => (by rw [gv] at hw'; cases hw'), fun _ => ?_⟩
            obtain ⟨r3, e3, t3⟩ := st (putK vs (kk k) u) (dput l k y) (okSt_and (r2.okD q) hlen.2 fun h1 h2 => noRK_put h1 h2) fun t => DenK.put (d2.stab t) k (dl'.stab t)
            exact p2 _ _ _ e3 r3 (d2.stab t3)
          · simp only [if_neg hlen] at p2; exact p2.elim
  · rw [if_neg z] at p; exact p.elim
theorem se_sdef {i : Nat} {x : Str} (hN : X.N[i]? = some x) (hv : Vis X.env.scope x) (hd : (x == ("__debug__" : Str)) = false) (hcd : (x == ("__classdict__" : Str)) = false) (he : PE X e (tev X.K Wx g ck)) (hf : PE X f (tev X.K Wx g c)) (h1 : isStar e = false) (h2 : isStar f = false) (hl : (apos.endLine == cpos.line) = true) :
    PE X (.Call (.Attribute (.Name x px) "setdefault" apos) [e, f] [] cpos) (tev X.K Wx g (sdefE i ck c)) :=
  (pe_dsetd (pe_var hN hv hd hcd) he hf (m2_of (b := "") h1 h2 hl rfl)).mono fun _ _ _ h => sdef_run h
end

/-! ### sorted(set(xs)), xs[::-1] -/
theorem insD_mem {k : Int} : ∀ {l : List Int} {j : Int}, j ∈ insD k l ↔ j = k ∨ j ∈ l
  | [], j => by simp [insD]
  | x :: r, j => by
    unfold insD
    split
    · simp
    · split
      · rename_i h; subst h; simp
      · rw [List.mem_cons, insD_mem, List.mem_cons]
        constructor
        · rintro (h | h | h) <;> simp [h]
        · rintro (h | h | h) <;> simp [h]
theorem insD_pw {k : Int} : ∀ {l : List Int}, l.Pairwise (· < ·) → (insD k l).Pairwise (· < ·)
  | [], _ => by simp [insD]
  | x :: r, h => by
    rw [List.pairwise_cons] at h
    unfold insD
    split
    · rename_i hk
      rw [List.pairwise_cons]
      refine ⟨fun y hy => ?_, List.pairwise_cons.mpr h⟩
      rcases List.mem_cons.mp hy with rfl | hy
      · exact hk
      · exact Int.lt_trans hk (h.1 y hy)
    · split
      · exact List.pairwise_cons.mpr h
      · rw [List.pairwise_cons]
        refine ⟨fun y hy => ?_, insD_pw h.2⟩
        rcases insD_mem.mp hy with rfl | hy
        · omega
        · exact h.1 y hy
theorem sortD_pw (l : List Int) : (sortD l).Pairwise (· < ·) := by
  induction l with
  | nil => exact List.Pairwise.nil
  | cons x l ih => exact insD_pw ih
theorem sortD_mem (l : List Int) (j : Int) : j ∈ sortD l ↔ j ∈ l := by
  induction l with
  | nil => simp [sortD]
  | cons x l ih =>
    show j ∈ insD x (sortD l) ↔ _
    rw [insD_mem, ih, List.mem_cons]
theorem pw_ext : ∀ {a b : List Int}, a.Pairwise (· < ·) → b.Pairwise (· < ·) → (∀ j, j ∈ a ↔ j ∈ b) → a = b
  | [], [], _, _, _ => rfl
  | [], y :: b, _, _, h => by have := (h y).mpr List.mem_cons_self; simp at this
  | x :: a, [], _, _, h => by have := (h x).mp List.mem_cons_self; simp at this
  | x :: a, y :: b, ha, hb, h => by
    rw [List.pairwise_cons] at ha hb
    have e : x = y := by
      rcases List.mem_cons.mp ((h x).mp List.mem_cons_self) with e | e
      · exact e
      · rcases List.mem_cons.mp ((h y).mpr List.mem_cons_self) with e2 | e2
        · exact e2.symm
        · have a1 := hb.1 x e; have a2 := ha.1 y e2; omega
    subst e
    rw [pw_ext ha.2 hb.2 fun j => ?_]
    constructor
    · intro hj
      rcases List.mem_cons.mp ((h j).mp (List.mem_cons_of_mem _ hj)) with e | e
      · have := ha.1 j hj; omega
      · exact e
    · intro hj
      rcases List.mem_cons.mp ((h j).mpr (List.mem_cons_of_mem _ hj)) with e | e
      · have := hb.1 j hj; omega
      · exact e
end Cy

set_option Elab.async false
set_option linter.all false
set_option maxRecDepth 100000
set_option maxHeartbeats 4000000
/-! Cy: sorted(set(xs)), xs a list of ints. -/
namespace Cy
open L2 PySem PySem.Spec PyProof.Rows
/-- a set that was just made -/
abbrev s0 (w : World) : Obj := { cls := .type "set", dict := none, data := .set #[] 0 (.fresh 0 0 (!w.params.followText "set-order")) }
section
variable {P : Program} {w : World} {A : Around} {E : Value → Shared → Prop} {s : Shared}
/-- the new set is filled -/
theorem set_fill {l : Addr} {its : Array Value} (ns : List Int) {T : PySem.Fin → Shared → Prop} (hh : A.handled = none) (hl : s.heap.IsList l its) (hit : IntsAre its.toList ns) (hb : ns.length + 1 < scanBound)
    (h : ∀ (g : Heap) (tk c : Nat), SetR w g s.heap.objs.size (fun j => decide (j ∈ ns)) c → c ≤ ns.length → (∀ b o, s.heap.get? b = some o → g.get? b = some o) → T (.done (.ret .none)) { s with heap := g, toks := tk }) :
    wpAny (model P w) A (Builtin.«set.__init__» ⟨[.ref s.heap.objs.size, .ref l], []⟩) T E { s with heap := s.heap.push (s0 w) } := by
  have sz : its.size = ns.length := by rw [← Array.length_toList]; exact hit.length
  have at_ : (s.heap.push (s0 w)).get? s.heap.objs.size = some (s0 w) := Heap.get?_push_size _ rfl
  have ty : Shared.TypeIs { s with heap := s.heap.push (s0 w) } (.ref s.heap.objs.size) "set" := ⟨_, at_, rfl⟩
  obtain ⟨ol, hol, hcl, nl, hdl⟩ := hl
  obtain ⟨ocls, odict, odata, oslots⟩ := ol
  simp only at hcl hdl
  subst hcl; subst hdl
  have hol2 : (s.heap.push (s0 w)).get? l = some { cls := .type "list", dict := odict, data := .seq its nl, slots := oslots } := Heap.get?_push_of_some _ hol
  have k1 := F.sub_list_set; have k2 := F.sub_list_frozenset
  have k3 : (Value.type "list" == Value.type "dict") = false := by decide
  have il : (s.heap.push (s0 w)).IsList l its := ⟨_, hol2, rfl, nl, rfl⟩
  unfold Builtin.«set.__init__» noKeywords Builtin.Frozenset.updateFrom
  generalize hPI : pyIter = PI
  wp_walk
  subst hPI
  refine wpAny_pyIter_list il ?_
  refine wpAny_bind (wpAny_runValue ?_)
  have ls : l < s.heap.objs.size := Heap.lt_size hol
  have h3 : A.in1.handled = none := by simp [hh]
  have z1 : (s.heap.push (s0 w)).objs.size = s.heap.objs.size + 1 := Heap.size_push ..
  have ne : l ≠ (s.heap.push (s0 w)).objs.size := by rw [z1]; exact Nat.ne_of_lt (Nat.lt_succ_of_lt ls)
  have sf : s.heap.objs.size ∉ [(s.heap.push (s0 w)).objs.size, l] := by
    rw [z1, List.mem_cons, List.mem_singleton]; exact fun q => q.elim (Nat.ne_of_lt (Nat.lt_succ_self _)) (Nat.ne_of_gt ls)
  refine set_update_ints ((Walks.list h3 _ l ne its).toS) s.heap.objs.size sf ns sz hb (fun i v hv => ?_) (its.size - 0) 0 _ (by omega) (Nat.zero_le _) ⟨⟨_, Heap.get?_push_size _ rfl, rfl, rfl⟩, (il.push _)⟩ ⟨0, Nat.le_refl 0, setR_new_at (Heap.get?_push_of_some _ at_)⟩ fun s' c' hm hc' hS' => ?_
  · have hi : i < ns.length := by rw [← sz]; exact (Array.getElem?_eq_some_iff.mp hv).1
    obtain ⟨t, e⟩ := PyProof.Rows.IntsAre.int_at hit i v (by rw [Array.getElem?_toList]; exact hv)
    exact ⟨ns[i], t, List.getElem?_eq_getElem hi, by rw [e, List.getD_eq_getElem?_getD, List.getElem?_eq_getElem hi]; rfl⟩
  · obtain ⟨g, g2, d', tk', os'⟩ := s'
    have eg : g2 = s.gens := hm.gens
    have ed : d' = s.drawn := hm.drawn
    have eo : os' = s.os := hm.os
    subst eg; subst ed; subst eo
    show wpAny _ _ _ _ _ _
    refine wpAny_pure ?_
    show wpAny _ _ (PySem.ret Value.none) _ _ _
    rw [sz] at hc'
    refine wpAny_pure (h g tk' c' hS' hc' fun b o e => ?_)
    have b0 : b < s.heap.objs.size := Heap.lt_size e
    refine hm.heap b o ?_ (Heap.get?_push_of_some _ (Heap.get?_push_of_some _ e))
    rw [z1, List.mem_cons, List.mem_singleton]
    exact fun q => q.elim (Nat.ne_of_lt b0) (Nat.ne_of_lt (Nat.lt_succ_of_lt b0))
theorem set_newS {l : Addr} {T : Value → Shared → Prop} (h : T (.ref s.heap.objs.size) { s with heap := s.heap.push (s0 w) }) :
    codeAny (model P w) A (.call (.builtin "set.__new__") ⟨[.type "set", .ref l], []⟩) (wants T E) s := code_set_led1 _ h
/-- set(xs) -/
theorem set_list {l : Addr} {its : Array Value} (ns : List Int) {T : Value → Shared → Prop} (hh : A.handled = none) (hl : s.heap.IsList l its) (hit : IntsAre its.toList ns) (hb : ns.length + 1 < scanBound)
    (h : ∀ (g : Heap) (tk c : Nat), SetR w g s.heap.objs.size (fun j => decide (j ∈ ns)) c → c ≤ ns.length → (∀ b o, s.heap.get? b = some o → g.get? b = some o) → T (.ref s.heap.objs.size) { s with heap := g, toks := tk }) :
    wpAny (model P w) A (PySem.call (.type "set") [.ref l]) T E s := by
  obtain ⟨c, tl, f1⟩ := F.called_set.mro
  have f2 := F.called_set.made; have f3 := F.called_set.sub
  refine wpAny_call (codeAny_of_tree ?_)
  show wpAny _ _ (callAny (.type "set") _) _ _ _
  refine wpAny_pure ⟨Code.quiet_builtin _ (by decide +kernel), codeAny_builtin F.entry_type_call ?_⟩
  rw [Around.under_plain (weight_type_call_type "set" [.ref l] []) rfl]
  have f4 := F.called_set.notType; have f5 := F.called_set.canCreate; have f6 := F.typeCall_set_1 (.ref l)
  repeat (any_goals (first | assumption | wp_step))
  refine codeAny_mono (set_newS (l := l) (E := E) (T := fun b s1 => b = .ref s.heap.objs.size ∧ s1 = { s with heap := s.heap.push (s0 w) }) ⟨rfl, rfl⟩) fun r s1 hr => ?_
  cases r with
  | error e => exact hr
  | ok fl =>
    cases fl with
    | ret b =>
      obtain ⟨rfl, rfl⟩ := hr
      have at_ : (s.heap.push (s0 w)).get? s.heap.objs.size = some (s0 w) := Heap.get?_push_size _ rfl
      have ty : Shared.TypeIs { s with heap := s.heap.push (s0 w) } (.ref s.heap.objs.size) "set" := ⟨_, at_, rfl⟩
      have f7 := F.called_set.init.lookup; have f8 := F.called_set.init.bind (.ref s.heap.objs.size)
      repeat (any_goals (first | assumption | wp_step))
      refine codeAny_mono (codeAny_call_builtin (R := wants (fun r s2 => r = .none ∧ ∃ g tk c, s2 = { s with heap := g, toks := tk } ∧ SetR w g s.heap.objs.size (fun j => decide (j ∈ ns)) c ∧ c ≤ ns.length ∧
          (∀ b o, s.heap.get? b = some o → g.get? b = some o)) E) F.called_set.init.plain F.entry_set_init (check_set_init_1 ty (set_fill ns (by simp [hh]) hl hit hb fun g tk c k1 k2 k3 => ?_))) fun r2 s2 hr2 => ?_
      · exact ⟨rfl, g, tk, c, rfl, k1, k2, k3⟩
      · cases r2 with
        | error e => exact hr2
        | ok f9 =>
          cases f9 with
          | ret r =>
            obtain ⟨rfl, g, tk, c', rfl, k1, k2, k3⟩ := hr2
            repeat (any_goals (first | assumption | wp_step))
            exact h _ _ _ k1 k2 k3
          | _ => exact hr2.elim
    | _ => exact hr.elim
end
/-- sorted(set(xs)) -/
def rSset (F : Fg) (v : V) (H : Hp) (Q : VK) : Prop := ∃ (l : Addr) (ns : List Int), v = .ref l ∧ SqL F H l (ns.map V.int) ∧ ns.length < 64 ∧ ∀ (ms : List Int) (p : Addr), ms.Pairwise (· < ·) → (∀ k, k ∈ ms ↔ k ∈ ns) → H p = none → Q (.ref p) (upd H p (.lst (ms.map V.int)))
section
variable {X : Cx} {a : Expr} {ta : TE} {p p2 q pos : Pos}
theorem pe_sset (hc : X.calm = true) (hg : Gl X "sorted") (hm : X.mg "sorted" = none) (hg2 : Gl X "set") (hm2 : X.mg "set" = none) (ha : PE X a ta) (na : isStar a = false) :
    PE X (.Call (.Name "sorted" p) [.Call (.Name "set" p2) [a] [] q] [] pos) (tUn (rSset X.K) ta) := by
  refine ⟨fun pins s σ H Q I h => ?_⟩
  refine Call_ (ld_blt I hg hm (u := .builtin "sorted") rfl ?_)
  refine PyProof.Rows.callWith_builtin1 (PyProof.Rows.args_cons ?_ rfl) rfl rfl
  refine Call_ (ld_blt I hg2 hm2 (u := .type "set") rfl ?_)
  refine PyProof.Rows.callWith_type1 (PyProof.Rows.args_cons (thn (ha.run pins s σ H _ I h) fun v s1 ⟨x, H1, I1, r1, q1⟩ => PyProof.Rows.args_nil ?_) (starEach_of na)) (starEach_of na) rfl
  obtain ⟨l, ns, rfl, hq, h64, q1⟩ := q1
  cases r1
  obtain ⟨its, r, pl, hz⟩ := I1.list hq
  have li : its.toArray.size = ns.length := by rw [List.size_toArray, ← r.length, List.length_map]
  refine set_list ns (I1.ok.hd hc) pl.isList (by simpa using r.ints) (by unfold scanBound; omega) fun g tk c k1 k2 k3 => ?_
  have I2 : Inv X pins σ H1 { s1 with heap := g, toks := tk } := I1.kept fun b o e => k3 b o e
  refine PyProof.Rows.args_nil ?_
  refine sorted_set k1 (I2.ok.hd hc) (by omega) fun s' p out e ms g1 g2 g3 g4 g5 g6 g7 g8 g9 => ?_
  have hlen : (ms.map V.int).length ≤ sizeLine := by rw [List.length_map, g9, sizeLine_eq]; omega
  have hn : H1 p = none := I2.hok.fresh g4
  have J : Inv X pins σ (upd H1 p (.lst (ms.map V.int))) { ({ s1 with heap := g, toks := tk } : Shared) with heap := s'.heap, gens := s'.gens, drawn := s'.drawn, toks := s'.toks } :=
    I2.call (ch := []) (Un.laid g1 g4 hn) (I2.hok.laid g1 g4 ⟨hlen, out.toList, e, vals_of_ints g6, g5⟩) (by rw [g2]; exact I2.bare) (fun _ z => nomatch z)
  have es : s' = { s1 with heap := s'.heap, gens := s'.gens, drawn := s'.drawn, toks := s'.toks } := by
    cases s'; cases s1; cases g3; rfl
  rw [es]
  exact ⟨.ref p, _, J, rfl, q1 ms p g7 (fun k => (g8 k).trans decide_eq_true_iff) hn⟩
end
theorem ints_den {F : Fg} {W : Wd} {H : Hp} : ∀ {vs : List V} {l : List D} {ns : List Int}, DenL F W H vs l → ints? l = some ns → vs = ns.map V.int
  | _, _, ns, .nil, e => by cases e; rfl
  | _, _, ns, .cons (d := d) dv r, e => by
    cases d with
    | int i =>
      unfold ints? at e
      cases q : ints? _ with
      | none => rw [q] at e; cases e
      | some ms =>
        rw [q] at e
        cases e
        rw [List.map_cons, dv.intv, ints_den r q]
    | _ => cases e
theorem den_ints' {F : Fg} {W : Wd} {H : Hp} : ∀ ns : List Int, DenL F W H (ns.map V.int) (ns.map D.int)
  | [] => .nil
  | n :: ns => .cons (.int n) (den_ints' ns)
theorem pr_sset {F : Fg} : Prim1 F (fun _ => dSset) (rSset F) := by
  intro W s σ H v d z Q r hv q k
  cases d with
  | lst l =>
    unfold dSset at q
    cases qi : ints? l with
    | none => simp only [qi] at q; cases q
    | some ns =>
      simp only [qi] at q
      by_cases hl : ns.length < 64
      · rw [if_pos hl] at q
        cases q
        obtain ⟨a, vs, rfl, h, dl⟩ := hv.lst
        rw [ints_den dl qi] at h dl
        refine ⟨a, ns, rfl, SqL.of h, hl, fun ms p hp hm hn => ?_⟩
        have e : ms = sortD ns := pw_ext hp (sortD_pw ns) fun j => (hm j).trans (sortD_mem ns j).symm
        rw [e]
        exact Ends1.lst (W := W) (s := s) (σ := σ) k r (den_ints' (sortD ns)) p hn
      · rw [if_neg hl] at q; cases q
  | _ => cases q
theorem se_sset {X : Cx} {Wx : WX} {g : G} {a : Expr} {p p2 q pos : Pos} {oa : Op} (hc : X.calm = true) (hg : Gl X "sorted") (hm : X.mg "sorted" = none) (hg2 : Gl X "set") (hm2 : X.mg "set" = none) (ha : PE X a (top X.K Wx g oa)) (na : isStar a = false) :
    PE X (.Call (.Name "sorted" p) [.Call (.Name "set" p2) [a] [] q] [] pos) (tev X.K Wx g (o1 (fun _ => dSset) oa)) :=
  (pe_sset hc hg hm hg2 hm2 ha na).mono fun _ _ _ h => rd_one pr_sset h
end Cy

set_option Elab.async false
set_option linter.all false
set_option maxRecDepth 100000
/-! Cy: x += e; xs[::-1]. -/
namespace Cy
open L2 PySem PySem.Spec PyProof.Rows
section
variable {X : Cx} {Wx : WX} {g : G} {i : Nat} {x : Str} {pos pos' : Pos} {e : Expr} {c : Ex}
theorem augI_run {F : Fg} {f : Int → Int → Int} {En : Ends} {σ : St} {H : Hp} (h : tst F Wx g (augI f i c) En σ H) : tAug i (tev F Wx g c) (ipI f) En σ H := by
  obtain ⟨W, s, r, p⟩ := h
  unfold augI at p
  cases q : rdP i s with
  | none => rw [q] at p; exact p.elim
  | some d =>
    rw [q] at p
    cases d with
    | int a =>
      have hx : σ[i]? = some (some (.int a)) := by
        unfold rdP at q
        cases q2 : s.sg[i]? with
        | none => rw [q2] at q; cases q
        | some sl =>
          rw [q2] at q
          cases sl with
          | no => cases q
          | val d =>
            cases q
            obtain ⟨v, e1, dv⟩ := r.val i _ q2
            rw [e1, dv.intv]
          | own d =>
            cases q
            obtain ⟨b, _, o, _⟩ := r.own i _ q2
            exact o.elim
      refine ⟨.int a, hx, ?_⟩
      refine fl_bind (De := Den F) r p fun d s1 W1 H1 v e1 r1 d1 p1 => ?_
      cases d with
      | int b =>
        obtain rfl := d1.intv
        refine ⟨a, b, rfl, rfl, ?_⟩
        by_cases hi : i < s1.sg.length
        · simp only [if_pos hi] at p1
          exact sg_name (F := F) W1 s1 { s1 with sg := s1.sg.set i (.val (.int (f a b))) } σ H1 (.int (f a b)) (.int (f a b)) _ r1 (.int _) (by unfold Cy.gName; rw [if_pos hi]) fun σ2 r2 e2 _ => p1 W1 σ2 H1 e2 r2
        · simp only [if_neg hi] at p1; exact p1.elim
      | _ => exact p1.elim
    | _ => exact p.elim
theorem ss_augAdd (cc : Cc X Wx) (hi : X.N[i]? = some x) (hx : Loc X.env.scope x) (hf : X.fn x = true ∨ X.env.scope.names.lookup x = some .local) (he : PE X e (tev X.K Wx g c)) : PS X (.AugAssign (.Name x pos') .Add e pos) (tst X.K Wx g (augI (fun i j => i + j) i c)) :=
  (ps_aug cc.nd hi hx he ip_add hf).mono fun _ _ _ h => augI_run h
theorem ss_augSub (cc : Cc X Wx) (hi : X.N[i]? = some x) (hx : Loc X.env.scope x) (hf : X.fn x = true ∨ X.env.scope.names.lookup x = some .local) (he : PE X e (tev X.K Wx g c)) : PS X (.AugAssign (.Name x pos') .Sub e pos) (tst X.K Wx g (augI (fun i j => i - j) i c)) :=
  (ps_aug cc.nd hi hx he ip_sub hf).mono fun _ _ _ h => augI_run h
end
/-! ### xs[::-1] of a list -/
def rRevL (F : Fg) : V → Hp → VK → Prop := fun x H1 Q => ∃ a xs, x = .ref a ∧ SqL F H1 a xs ∧ ∀ p, H1 p = none → Q (.ref p) (upd H1 p (.lst xs.reverse))
theorem fr_revL {F : Fg} : FrB1 F (fun _ => dRevL) (rRevL F) := by
  intro W s σ H v d z Q r hv q k
  cases d with
  | lst l =>
    cases q
    obtain ⟨a, vs, rfl, h, dl⟩ := hv.lst
    exact ⟨a, vs, rfl, SqL.of h, fun p hp => k p _ hp ⟨_, upd_same, (dl.stab (r.stab_new hp)).reverse⟩⟩
  | fro l =>
    cases q
    obtain ⟨a, vs, rfl, h, dl⟩ := hv.fro
    exact ⟨a, vs, rfl, h, fun p hp => k p _ hp ⟨_, upd_same, (dl.stab (r.stab_new hp)).reverse⟩⟩
  | _ => cases q
theorem sf_revL {X : Cx} {Wx : WX} {g : G} {e : Expr} {k : Nat} {p1 p2 p3 pos : Pos} {oa : Op} (he : PE X e (top X.K Wx g oa)) : PE X (.Subscript e (.Slice none none (some (.UnaryOp .USub (.Constant (.int 1) k p1) p2)) p3) pos) (tfr X.K Wx g (o1 (fun _ => dRevL) oa)) :=
  (pe_revL he).mono fun _ _ _ h => fr_one fr_revL h
end Cy

set_option Elab.async false
set_option linter.all false
set_option maxRecDepth 100000
set_option maxHeartbeats 4000000
/-! Cy: t[::-1], t[:0:-1] of a tuple. -/
namespace Cy
open L2 PySem PySem.Spec PyProof.Rows HT

/-- what is left out ahead: nothing, or the first item -/
def hiD (b : Bool) : Option Int := if b then some 0 else none
section
variable {prog : Program} {w : World} {A : Around} {E : Value → Shared → Prop} {s : Shared}
theorem adjust_down (b : Bool) (n : Nat) : Builtin.Slice.sliceAdjust none (hiD b) (-1) (n : Int) = ((n : Int) - 1, if b then min 0 ((n : Int) - 1) else -1) := by
  cases b <;> rfl
theorem places_down (b : Bool) (n : Nat) : Builtin.Slice.slicePlaces ((n : Int) - 1) (if b then min 0 ((n : Int) - 1) else -1) (-1) = n - offD b := by
  unfold Builtin.Slice.slicePlaces offD
  have h1 : ¬ (-1 : Int) > 0 := by decide
  have e : (- -1 : Int) = 1 := by decide
  simp only [h1, if_false, e, Int.ediv_one]
  cases b
  · simp only [Bool.false_eq_true, if_false]
    split <;> omega
  · simp only [if_true]
    split <;> omega
theorem sliceApplied_down {sl : Addr} {vl vu vs : Value} {b : Bool} {n : Nat} {Q : Int × Int × Nat → Shared → Prop} (hs : s.heap.IsSliceOf sl vl vu vs) (pl : IsPart vl none) (pu : IsPart vu (hiD b)) (ps : IsPart vs (some (-1)))
    (h : Q ((n : Int) - 1, -1, n - offD b) s) : wpAny (model prog w) A (Builtin.Slice.sliceApplied (.ref sl) (pure (n : Int))) Q E s := by
  obtain ⟨os, hos, hcs, hds⟩ := id hs
  unfold Builtin.Slice.sliceApplied Builtin.Slice.sliceFields
  refine wpAny_bind (wpAny_bind (wpAny_field hos hds (x := vl) rfl (wpAny_bind (wpAny_field hos hds (x := vu) rfl (wpAny_bind (wpAny_field hos hds (x := vs) rfl (wpAny_pure ?_)))))))
  refine wpAny_bind (slicePart_ ps ?_)
  show wpAny _ _ (if ((-1 : Int) == 0) = true then _ else _) _ _ s
  rw [if_neg (by decide)]
  refine wpAny_bind (slicePart_ pl (wpAny_bind (slicePart_ pu (wpAny_bind (wpAny_pure ?_)))))
  show wpAny _ _ (match Builtin.Slice.sliceAdjust none (hiD b) (-1) (n : Int) with | (lo, hi) => pure (lo, (-1 : Int), Builtin.Slice.slicePlaces lo hi (-1))) _ _ s
  rw [adjust_down b n]
  show wpAny _ _ (pure ((n : Int) - 1, (-1 : Int), Builtin.Slice.slicePlaces ((n : Int) - 1) (if b then min 0 ((n : Int) - 1) else -1) (-1))) _ _ s
  rw [places_down]
  exact wpAny_pure h
theorem pick_down (xs : Array Value) (b : Bool) : ((List.range (xs.size - offD b)).filterMap fun (m : Nat) => xs[(((xs.size : Int) - 1) + (m : Int) * (-1)).toNat]?).toArray = ((xs.toList.drop (offD b)).reverse).toArray := by
  congr 1
  have hb : offD b ≤ 1 := by cases b <;> decide
  have e : ∀ m ∈ List.range (xs.size - offD b), xs[(((xs.size : Int) - 1) + (m : Int) * (-1)).toNat]? = some ((xs.toList.drop (offD b)).reverse.getD m default) := fun m hm => by
    have hm := List.mem_range.mp hm
    have i1 : (((xs.size : Int) - 1) + (m : Int) * (-1)).toNat = xs.size - 1 - m := by omega
    have l1 : m < (xs.toList.drop (offD b)).reverse.length := by rw [List.length_reverse, List.length_drop, Array.length_toList]; exact hm
    rw [i1, List.getD_eq_getElem?_getD, List.getElem?_eq_getElem l1, List.getElem_reverse, List.getElem_drop]
    rw [Array.getElem?_eq_getElem (by omega)]
    simp only [Option.getD_some, Option.some.injEq, Array.getElem_toList]
    congr 1
    rw [List.length_drop, Array.length_toList]
    omega
  refine List.ext_getElem? fun i => ?_
  have key : ∀ (l : List Nat) (f : Nat → Option Value) (g : Nat → Value), (∀ m ∈ l, f m = some (g m)) → l.filterMap f = l.map g := by
    intro l f g
    induction l with
    | nil => intro _; rfl
    | cons a l ih => intro h; rw [List.filterMap_cons, h a List.mem_cons_self, List.map_cons, ih fun m hm => h m (List.mem_cons_of_mem _ hm)]
  rw [key _ _ _ e, List.getElem?_map]
  by_cases hi : i < xs.size - offD b
  · have l1 : i < (xs.toList.drop (offD b)).reverse.length := by rw [List.length_reverse, List.length_drop, Array.length_toList]; exact hi
    rw [List.getElem?_range hi, List.getElem?_eq_getElem l1, Option.map_some, List.getD_eq_getElem?_getD, List.getElem?_eq_getElem l1]; rfl
  · rw [List.getElem?_eq_none (by rw [List.length_range]; omega), List.getElem?_eq_none (by rw [List.length_reverse, List.length_drop, Array.length_toList]; omega)]; rfl
theorem getItem_tuple_down {t sl : Addr} {items : Array Value} {vl vu vs : Value} {b : Bool} {Q : Value → Shared → Prop} (ht : IsTup s.heap t items) (hs : s.heap.IsSliceOf sl vl vu vs) (pl : IsPart vl none) (pu : IsPart vu (hiD b)) (ps : IsPart vs (some (-1)))
    (h : Q (.ref s.heap.objs.size) { s with heap := s.heap.push { cls := .type "tuple", data := .seq ((items.toList.drop (offD b)).reverse).toArray } })
    (hsz : items.size ≤ sizeLine) : wpAny (model prog w) A (getItem (.ref t) (.ref sl)) Q E s := by
  have htake : sizeOk (.seq ((items.toList.drop (offD b)).reverse).toArray) := by
    show ((items.toList.drop (offD b)).reverse).toArray.size ≤ sizeLine
    rw [List.size_toArray, List.length_reverse, List.length_drop, Array.length_toList]
    omega
  obtain ⟨os, hos, hcs, hds⟩ := id hs
  have hTs : s.TypeIs (.ref sl) "slice" := ⟨os, hos, hcs⟩
  unfold getItem
  try with_reducible refine wpAny_holding ?_
  first | refine wpAny_bind (wpAny_pure ?_) | skip
  refine wpAny_bind (wpAny_sequenceKey ht.typeIs (by decide) ?_)
  refine wpAny_bind (wpAny_callSpecial?_slot (name := Str.ofString "__getitem__") ht.typeIs PyProof.Rows.slot_tuple_getitem
    (wpAny_call_entry PyProof.Rows.slot_tuple_getitem ht.typeIs entry_tuple_getitem ?_ (args_tuple_getitem _ _)))
  show wpAny _ _ (Builtin.Tuple.tupleItemsOf (.ref t) >>= _) _ _ s
  refine wpAny_bind (tupleItemsOf_ ht ?_)
  refine wpAny_bind (wpAny_typeOf hTs ?_)
  rw [if_pos (by decide)]
  refine wpAny_bind (sliceApplied_down (b := b) hs pl pu ps ?_)
  have hno : ¬ ((((items.size : Int) - 1) == 0 && (-1 : Int) == 1 && (items.size - offD b) == items.size) = true) := by
    intro q
    rw [Bool.and_eq_true, Bool.and_eq_true] at q
    exact absurd q.1.2 (by decide)
  show wpAny _ _ (if (((items.size : Int) - 1) == 0 && (-1 : Int) == 1 && (items.size - offD b) == items.size) = true then _ else _) _ _ s
  rw [if_neg hno, pick_down]
  first
    | exact wpAny_bind (m := Builtin.Tuple.tupleExact _) (wpAny_newObj_type (wpAny_pure ⟨_, rfl, wpAny_pure h⟩) htake)
    | exact wpAny_bind (m := Builtin.Tuple.tupleExact _) (wpAny_newObj_type (wpAny_bind (wpAny_pure (wpAny_pure ⟨_, rfl, wpAny_pure h⟩))) htake)
    | exact wpAny_bind (wpAny_bind (m := Builtin.Tuple.tupleExact _) (wpAny_newObj_type (wpAny_pure (wpAny_pure ⟨_, rfl, wpAny_pure h⟩)) htake))
    | exact wpAny_bind (wpAny_bind (m := Builtin.Tuple.tupleExact _) (wpAny_newObj_type (wpAny_pure ⟨_, rfl, wpAny_pure h⟩) htake))
end
/-- the slice's end, written: none, or 0 -/
def HiE (b : Bool) (o : Option Expr) : Prop := (b = false ∧ o = none) ∨ (b = true ∧ ∃ k p, o = some (.Constant (.int 0) k p))
/-- a list's, a tuple's -/
def rRevA (F : Fg) (b : Bool) : V → Hp → VK → Prop := fun x H1 Q => (b = false ∧ ∃ a xs, x = .ref a ∧ SqL F H1 a xs ∧ ∀ p, H1 p = none → Q (.ref p) (upd H1 p (.lst xs.reverse))) ∨
  ∃ a xs, x = .ref a ∧ SqT F H1 a xs ∧ ∀ p, H1 p = none → TupAns Q H1 p (xs.drop (offD b)).reverse
theorem pe_revA {X : Cx} {b : Bool} {o : Option Expr} {e : Expr} {te : TE} {k : Nat} {p1 p2 p3 pos : Pos} (hh : HiE b o) (he : PE X e te) : PE X (.Subscript e (.Slice none o (some (.UnaryOp .USub (.Constant (.int 1) k p1) p2)) p3) pos) (tUn (rRevA X.K b) te) := by
  refine ⟨fun pins s σ H Q I h => ?_⟩
  refine Subscript_ (thn (he.run pins s σ H _ I h) fun v s1 ⟨x, H1, I1, r1, q1⟩ => ?_)
  have hst : PO X (some (.UnaryOp .USub (.Constant (.int 1) k p1) p2)) (tPart (tUn (rU fun i => .int (-i)) (tC (.int 1)))) := po_some (pe_un un_neg pe_int)
  have hup : ∀ (s2 : Shared) (H2 : Hp), Inv X pins σ H2 s2 → wpAny (model X.prog X.w) X.A (evalPart o X.env) (fun u s' => ∃ o' H', Inv X pins σ H' s' ∧ IsPart u o' ∧ o' = hiD b ∧ H' = H2) X.xe s2 := fun s2 H2 I2 => by
    rcases hh with ⟨rfl, rfl⟩ | ⟨rfl, k0, p0, rfl⟩
    · exact po_none.run pins s2 σ H2 (fun o' H' => o' = hiD false ∧ H' = H2) I2 ⟨rfl, rfl⟩
    · exact (po_some pe_int).run pins s2 σ H2 (fun o' H' => o' = hiD true ∧ H' = H2) I2 ⟨0, rfl, rfl, rfl⟩
  have hx : ∃ a, x = .ref a := q1.elim (fun ⟨_, a, xs, e, _⟩ => ⟨a, e⟩) fun ⟨a, xs, e, _⟩ => ⟨a, e⟩
  obtain ⟨a, rfl⟩ := hx
  obtain rfl : v = Value.ref a := r1
  refine wpAny_Slice (thn (po_none.run pins s1 σ H1 (fun o H2 => o = none ∧ H2 = H1) I1 ⟨rfl, rfl⟩) fun vl s2 ⟨l, H2, I2, pl, el, e2⟩ => ?_)
  subst el e2
  refine thn (hup s2 H2 I2) fun vu s3 ⟨u, H3, I3, pu, eu, e3⟩ => ?_
  subst eu e3
  refine thn (hst.run pins s3 σ H3 (fun o H4 => o = some (-1) ∧ H4 = H3) I3 ⟨1, rfl, -1, rfl, rfl, rfl⟩) fun vs s4 ⟨o4, H4, I4, ps, eo, e4⟩ => ?_
  subst eo e4
  have I5 : Inv X pins σ H4 { s4 with heap := s4.heap.push { cls := .type "slice", data := .fields #[vl, vu, vs] } } := I4.kept (t' := s4.toks) fun b ob q => Heap.get?_push_of_some _ q
  show wpAny (model X.prog X.w) X.A (subscriptTail e (.Slice none o (some (.UnaryOp .USub (.Constant (.int 1) k p1) p2)) p3) (.ref a) (.ref s4.heap.objs.size)) (EP X pins σ Q) X.xe { s4 with heap := s4.heap.push { cls := .type "slice", data := .fields #[vl, vu, vs] } }
  rcases q1 with ⟨rfl, a', xs, ea, hx, q⟩ | ⟨a', xs, ea, hx, q⟩
  · cases ea
    obtain ⟨its, r, ht, hz⟩ := I5.list hx
    have hlen := r.length
    refine tail_any (ops := [.ref a, .ref s4.heap.objs.size]) ht.isList.typeIs (PySem.slot_list_getitem.lookup) ?_ (by with_unfolding_all rfl)
    refine wpAny_getItem_list_slice ht.isList (Heap.IsSliceOf.new _ vl vu vs) pl pu ps (by decide) ?_ (by rw [List.size_toArray]; omega)
    show EP X pins σ Q _ { s4 with heap := (s4.heap.push _).push { cls := .type "list", data := .seq (slicePick its.toArray none none (some (-1))) } }
    rw [PySem.W.krv_pick]
    refine ⟨.ref _, _, I5.laid (t' := s4.toks) (o := .lst xs.reverse) (fun b ob q => Heap.get?_push_of_some _ q) (Nat.le_refl _) ?_, rfl, q _ (I5.hok.fresh (Nat.le_refl _))⟩
    exact ⟨by rw [List.length_reverse]; exact hz, _, 0, r.reverse, Heap.get?_push_size _ rfl⟩
  · cases ea
    obtain ⟨its, r, ht, hz⟩ := I5.tuple hx
    have hlen := r.length
    refine tail_any (ops := [.ref a, .ref s4.heap.objs.size]) ht.typeIs (PyProof.Rows.slot_tuple_getitem.lookup) ?_ (by with_unfolding_all rfl)
    refine getItem_tuple_down (b := b) ht (Heap.IsSliceOf.new _ vl vu vs) pl pu ps ?_ (by rw [List.size_toArray]; omega)
    exact tup_laid I5 (r.drop (offD b)).reverse (by rw [List.length_reverse, List.length_drop]; omega) fun hp => q _ hp
theorem pr_revA {F : Fg} {b : Bool} : Prim1 F (fun _ => dRevA b) (rRevA F b) := by
  intro W s σ H v d z Q r hv q k
  cases d with
  | tup l =>
    cases q
    obtain ⟨a, vs, rfl, h, dl⟩ := hv.tup
    exact .inr ⟨a, vs, rfl, h.sq, Ends1.tup (W := W) (s := s) (σ := σ) k r (dl.drop (offD b)).reverse⟩
  | frt l =>
    cases q
    obtain ⟨a, vs, rfl, h, dl⟩ := hv.frt
    exact .inr ⟨a, vs, rfl, h, Ends1.tup (W := W) (s := s) (σ := σ) k r (dl.drop (offD b)).reverse⟩
  | lst l =>
    cases b with
    | true => cases q
    | false =>
      cases q
      obtain ⟨a, vs, rfl, h, dl⟩ := hv.lst
      exact .inl ⟨rfl, a, vs, rfl, SqL.of h, Ends1.lst (W := W) (s := s) (σ := σ) k r dl.reverse⟩
  | fro l =>
    cases b with
    | true => cases q
    | false =>
      cases q
      obtain ⟨a, vs, rfl, h, dl⟩ := hv.fro
      exact .inl ⟨rfl, a, vs, rfl, h, Ends1.lst (W := W) (s := s) (σ := σ) k r dl.reverse⟩
  | _ => cases q
theorem se_revA {X : Cx} {Wx : WX} {g : G} {b : Bool} {o : Option Expr} {e : Expr} {k : Nat} {p1 p2 p3 pos : Pos} {oa : Op} (hh : HiE b o) (he : PE X e (top X.K Wx g oa)) : PE X (.Subscript e (.Slice none o (some (.UnaryOp .USub (.Constant (.int 1) k p1) p2)) p3) pos) (tev X.K Wx g (o1 (fun _ => dRevA b) oa)) :=
  (pe_revA hh he).mono fun _ _ _ h => rd_one pr_revA h
end Cy

set_option Elab.async false
set_option linter.all false
set_option maxRecDepth 100000
/-! Cy: further operations. -/
namespace Cy
open L2 PySem PySem.Spec PyProof.Rows

/-! ### x.count(y), x.index(y) -/
theorem findIx_some {p : D → Bool} : ∀ {l : List D} {n j : Nat}, findIx p l n = some j → n ≤ j ∧ (∃ z, l[j - n]? = some z ∧ p z = true) ∧ ∀ m z, m < j - n → l[m]? = some z → p z = false
  | [], _, _, h => by cases h
  | x :: r, n, j, h => by
    unfold findIx at h
    by_cases q : p x = true
    · rw [if_pos q] at h
      cases h
      refine ⟨Nat.le_refl _, ⟨x, by rw [Nat.sub_self]; rfl, q⟩, fun m z hm => by omega⟩
    · rw [if_neg q] at h
      obtain ⟨h1, ⟨z, h2, h3⟩, h4⟩ := findIx_some h
      have e : j - n = (j - (n + 1)) + 1 := by omega
      refine ⟨by omega, ⟨z, by rw [e]; exact h2, h3⟩, fun m y hm hy => ?_⟩
      cases m with
      | zero => cases hy; simpa using q
      | succ m => exact h4 m y (by omega) hy
section
variable {X : Cx}
/-- the items of a list or tuple, as they are compared -/
theorem items_cmp {pins : List (Addr × Obj)} {σ : L2.St} {H : Hp} {s : Shared} {vs : List V} {y : V} {its : List Value} {uy : Value} {d : PyData} {ds : List PyData} (hu : X.A.units + 65 < cLine) (I : Inv X pins σ H s) (rv : Vals vs its) (hv : DpAll X.K H vs ds) (ry : RelV y uy) (hy : Dp X.K H y d)
    (sl : SeqAt.shaped (.list ds) = true) (sd : SeqAt.shaped d = true) : (∀ z ∈ its.toArray, SeqAt.EqAt X.A.in1 s z uy (PyData.eqv (SeqAt.readOf s.heap z) d)) ∧ its.map (SeqAt.readOf s.heap) = ds := by
  obtain ⟨bs, r1⟩ := Dp.reads I d y uy hy ry
  have hx : PyData.canLayAll0 ds = true := SeqAt.canLay_of_shaped sl
  have room : X.A.units + 1 + min (PyData.depthAll ds) d.depth < cLine := room_in_shaped sd hu
  obtain ⟨as, h4⟩ := Dp.readsAll I ds _ its hv rv
  refine ⟨SeqAt.items_eqAt (A := X.A) (show ReadsAll s.heap its.toArray.toList ds as from h4) r1 hx (SeqAt.canLay_of_shaped sd) ?_, SeqAt.readsAll_map ds its as hx h4⟩
  exact room
/-- a list or a tuple of data -/
def SqD (F : Fg) (T : String) (H : Hp) (a : Addr) (vs : List V) : Prop := (T = "list" ∧ SqL F H a vs) ∨ (T = "tuple" ∧ SqT F H a vs)
def rCount (F : Fg) (T : String) : V → List V → Hp → VK → Prop := fun x xs H Q => ∃ (a : Addr) (y : V) (vs : List V) (d : PyData) (ds : List PyData), x = .ref a ∧ xs = [y] ∧ SqD F T H a vs ∧ DpAll F H vs ds ∧ Dp F H y d ∧ SeqAt.shaped (.list ds) = true ∧ SeqAt.shaped d = true ∧ Q (.int (ds.countP fun z => PyData.eqv z d : Nat)) H
def rIndex (F : Fg) (T : String) : V → List V → Hp → VK → Prop := fun x xs H Q => ∃ (a : Addr) (y : V) (vs : List V) (d : PyData) (ds : List PyData) (j : Nat) (z : PyData), x = .ref a ∧ xs = [y] ∧ SqD F T H a vs ∧ DpAll F H vs ds ∧ Dp F H y d ∧ SeqAt.shaped (.list ds) = true ∧ SeqAt.shaped d = true ∧
  ds[j]? = some z ∧ PyData.eqv z d = true ∧ (∀ (m : Nat) (u : PyData), m < j → ds[m]? = some u → PyData.eqv u d = false) ∧ Q (.int (j : Nat)) H
theorem count_map {h : Heap} {its : List Value} {ds : List PyData} {d : PyData} (e : its.map (SeqAt.readOf h) = ds) : its.toArray.toList.countP (fun u => PyData.eqv (SeqAt.readOf h u) d) = ds.countP fun z => PyData.eqv z d := by
  rw [← e, List.countP_map]; rfl
theorem mt_lcountD (hu : X.A.units + 65 < cLine) : MtR X "list.count" (rCount X.K "list") := by
  intro pins s σ H x xs v us Q I rx rs h
  obtain ⟨a, y, vs, d, ds, rfl, rfl, hq, hv, hy, sl, sd, q⟩ := h
  cases rx
  obtain ⟨u, rfl, ru⟩ := rs.one
  rcases hq with ⟨_, hq⟩ | ⟨z, _⟩
  · obtain ⟨its, rv, ⟨⟨cls, dd, dt, sls⟩, n, ho, hc, hdn, hd⟩, hlen⟩ := I.list hq
    simp only at hc hd
    subst hc hd
    obtain ⟨h1, h2⟩ := items_cmp hu I rv hv ru hy sl sd
    refine call_meets PySem.F.slot_list_count ⟨_, ho, rfl⟩ PySem.F.entry_list_count (PySem.F.args_list_count_2 _ _) (SeqAt.list_countAt a its.toArray n dd sls u _) ⟨ho, h1, ?_⟩
    rw [count_map h2]
    exact ⟨.int _, H, I.tok _, ⟨_, rfl⟩, q⟩
  · exact absurd z (by decide)
theorem mt_tcountD (hu : X.A.units + 65 < cLine) : MtR X "tuple.count" (rCount X.K "tuple") := by
  intro pins s σ H x xs v us Q I rx rs h
  obtain ⟨a, y, vs, d, ds, rfl, rfl, hq, hv, hy, sl, sd, q⟩ := h
  cases rx
  obtain ⟨u, rfl, ru⟩ := rs.one
  rcases hq with ⟨z, _⟩ | ⟨_, hq⟩
  · exact absurd z (by decide)
  · obtain ⟨its, rv, ⟨⟨cls, dd, dt, sls⟩, ho, hc, n, hd⟩, hz⟩ := I.tuple hq
    simp only at hc hd
    subst hc hd
    obtain ⟨h1, h2⟩ := items_cmp hu I rv hv ru hy sl sd
    refine call_meets PySem.F.slot_tuple_count ⟨_, ho, rfl⟩ PySem.F.entry_tuple_count (PySem.F.args_tuple_count_2 _ _) (SeqAt.tuple_countAt a its.toArray n dd sls u _) ⟨ho, h1, ?_⟩
    rw [count_map h2]
    exact ⟨.int _, H, I.tok _, ⟨_, rfl⟩, q⟩
theorem at_map {h : Heap} {its : List Value} {ds : List PyData} (e : its.map (SeqAt.readOf h) = ds) {m : Nat} (hm : m < its.toArray.size) : ds[m]? = some (SeqAt.readOf h its.toArray[m]) := by
  have : m < its.length := by simpa using hm
  rw [← e, List.getElem?_map, List.getElem?_eq_getElem this]
  simp
theorem mt_lindexD (hu : X.A.units + 65 < cLine) : MtR X "list.index" (rIndex X.K "list") := by
  intro pins s σ H x xs v us Q I rx rs h
  obtain ⟨a, y, vs, d, ds, j, z, rfl, rfl, hq, hv, hy, sl, sd, hz, hj, hno, q⟩ := h
  cases rx
  obtain ⟨u, rfl, ru⟩ := rs.one
  rcases hq with ⟨_, hq⟩ | ⟨w, _⟩
  · obtain ⟨its, rv, ⟨⟨cls, dd, dt, sls⟩, n, ho, hc, hdn, hd⟩, hlen⟩ := I.list hq
    simp only at hc hd
    subst hc hd
    obtain ⟨h1, h2⟩ := items_cmp hu I rv hv ru hy sl sd
    have hl : its.length = ds.length := by rw [← h2, List.length_map]
    have jl : j < its.toArray.size := by
      have := (List.getElem?_eq_some_iff.mp hz).1
      simp; omega
    have hvl := rv.length
    have hsl := sizeLine_eq
    refine call_meets PySem.F.slot_list_index ⟨_, ho, rfl⟩ PySem.F.entry_list_index (PySem.F.args_list_index_2 _ _) (SeqAt.list_indexAt a its.toArray n dd sls u (fun u => PyData.eqv (SeqAt.readOf s.heap u) d) j jl (by simp at jl; omega) ?_ ?_) ⟨ho, h1, ⟨.int (j : Nat), H, I.tok _, ⟨_, rfl⟩, q⟩⟩
    · have e := at_map h2 jl
      rw [hz] at e; cases e; exact hj
    · exact fun m hm hmj => hno m _ hmj (at_map h2 hm)
  · exact absurd w (by decide)
theorem mt_tindexD (hu : X.A.units + 65 < cLine) : MtR X "tuple.index" (rIndex X.K "tuple") := by
  intro pins s σ H x xs v us Q I rx rs h
  obtain ⟨a, y, vs, d, ds, j, z, rfl, rfl, hq, hv, hy, sl, sd, hz, hj, hno, q⟩ := h
  cases rx
  obtain ⟨u, rfl, ru⟩ := rs.one
  rcases hq with ⟨w, _⟩ | ⟨_, hq⟩
  · exact absurd w (by decide)
  · obtain ⟨its, rv, ⟨⟨cls, dd, dt, sls⟩, ho, hc, n, hd⟩, hzl⟩ := I.tuple hq
    simp only at hc hd
    subst hc hd
    obtain ⟨h1, h2⟩ := items_cmp hu I rv hv ru hy sl sd
    have hl : its.length = ds.length := by rw [← h2, List.length_map]
    have jl : j < its.toArray.size := by
      have := (List.getElem?_eq_some_iff.mp hz).1
      simp; omega
    refine call_meets PySem.F.slot_tuple_index ⟨_, ho, rfl⟩ PySem.F.entry_tuple_index (PySem.F.args_tuple_index_2 _ _) (TI.tuple_indexAt a its.toArray n dd sls u (fun u => PyData.eqv (SeqAt.readOf s.heap u) d) j jl ?_ ?_) ⟨ho, h1, ⟨.int (j : Nat), H, I.tok _, ⟨_, rfl⟩, q⟩⟩
    · have e := at_map h2 jl
      rw [hz] at e; cases e; exact hj
    · exact fun m hm hmj => hno m _ hmj (at_map h2 hm)
end
end Cy

set_option Elab.async false
set_option linter.all false
set_option maxRecDepth 100000
/-! Cy: x.count(y), x.index(y), x a list. -/
namespace Cy
open L2 PySem PySem.Spec PyProof.Rows
theorem count_py {l : List D} {y : D} (hl : l.all plain = true) (hy : plain y = true) : (pyL l).countP (fun z => PyData.eqv z (py y)) = l.countP fun z => eqv z y := by
  rw [pyL_map, List.countP_map]
  refine List.countP_congr fun z hz => ?_
  rw [eqv_py 40 z y (List.all_eq_true.mp hl z hz) hy]
  exact Iff.rfl
theorem get_pyL {l : List D} {j : Nat} {z : D} (h : l[j]? = some z) : (pyL l)[j]? = some (py z) := by
  rw [pyL_map, List.getElem?_map, h]; rfl
theorem pyL_get {l : List D} {j : Nat} {z : PyData} (h : (pyL l)[j]? = some z) : ∃ x, l[j]? = some x ∧ z = py x := by
  rw [pyL_map, List.getElem?_map] at h
  cases q : l[j]? with
  | none => rw [q] at h; cases h
  | some x => rw [q] at h; cases h; exact ⟨x, rfl, rfl⟩
theorem sqK_lst {d : D} (h : sqK d = 1) : ∃ l, d = .lst l := by
  cases d <;> first | exact ⟨_, rfl⟩ | cases h | (simp only [sqK] at h; split at h <;> cases h)
theorem sqK_tup {d : D} (h : sqK d = 2) : ∃ l, d = .tup l ∧ sT l = true := by
  cases d with
  | tup l =>
    refine ⟨l, rfl, ?_⟩
    simp only [sqK] at h
    split at h
    · assumption
    · cases h
  | _ => cases h
theorem sqK_two (d : D) : sqK d = 0 ∨ sqK d = 1 ∨ sqK d = 2 := by
  cases d with
  | lst l => exact .inr (.inl rfl)
  | tup l =>
    simp only [sqK]
    split
    · exact .inr (.inr rfl)
    · exact .inl rfl
  | _ => exact .inl rfl
theorem count_of {d : D} {l : List D} {y z : D} (hd : d = .lst l ∨ d = .tup l) (h : dCount d y = some z) : plain y = true ∧ l.all plain = true ∧ z = .int (l.countP fun z => eqv z y : Nat) := by
  have e : seq? d = some l := by rcases hd with rfl | rfl <;> rfl
  unfold dCount at h
  rw [e] at h
  simp only at h
  by_cases q : (plain y && l.all plain) = true
  · rw [if_pos q] at h
    rw [Bool.and_eq_true] at q
    cases h
    exact ⟨q.1, q.2, rfl⟩
  · rw [if_neg q] at h; cases h
theorem index_of {d : D} {l : List D} {y z : D} (hd : d = .lst l ∨ d = .tup l) (h : dIndex d y = some z) : plain y = true ∧ l.all plain = true ∧ ∃ j, z = .int (j : Nat) ∧ findIx (fun z => eqv z y) l 0 = some j := by
  have e : seq? d = some l := by rcases hd with rfl | rfl <;> rfl
  unfold dIndex at h
  rw [e] at h
  simp only at h
  by_cases q : (plain y && l.all plain) = true
  · rw [if_pos q] at h
    rw [Bool.and_eq_true] at q
    cases w : findIx (fun z => eqv z y) l 0 with
    | none => rw [w] at h; cases h
    | some j => rw [w] at h; cases h; exact ⟨q.1, q.2, j, rfl, rfl⟩
  · rw [if_neg q] at h; cases h
/-- a tuple whose object is known to have no dict -/
def tyTz (x : V) (H : Hp) : Prop := ∃ (a : Addr) (o : Obj) (vs : List V), x = .ref a ∧ H a = some (.frz o (.tup vs)) ∧ o.cls = .type "tuple" ∧ o.dict = none
section
variable {X : Cx} {Wx : WX} {g : G} {apos cpos : Pos} {o e : Expr} {oa : Op} {c : Ex}
theorem ty_tz : TyOk X "tuple" tyTz := by
  rintro pins σ H s x v I0 r ⟨a, o, vs, rfl, h, hc, hd⟩
  cases r
  have ok := (I0.hok a _ h).1
  refine ⟨⟨o, ok, hc⟩, fun b e => ?_⟩
  cases e
  exact ⟨o, ok, hd⟩
theorem cnt_fin {F : Fg} {b : Bool} {T : String} {W2 : Wd} {s2 : S} {σ : St} {H2 : Hp} {Q : VK} {a : Addr} {vs : List V} {l : List D} {d y : D} {u : V} (hd : d = .lst l ∨ d = .tup l) (sq : SqD F T H2 a vs) (dl : DenL F W2 H2 vs l) (dy : Den F W2 H2 u y) (r2 : Rel F W2 s2 σ H2)
    (p2 : Post F Wx (Den F) W2 s2 σ H2 Q (match (if b then dIndex d y else dCount d y) with | some r => .ok r s2 | none => .bad)) : (if b then rIndex F T else rCount F T) (.ref a) [u] H2 Q := by
  cases b with
  | false =>
    simp only [Bool.false_eq_true, if_false] at p2 ⊢
    cases q3 : dCount d y with
    | none => rw [q3] at p2; exact p2.elim
    | some z =>
      rw [q3] at p2
      obtain ⟨k1, k2, rfl⟩ := count_of hd q3
      refine ⟨a, _, vs, py y, pyL l, rfl, rfl, sq, dl.dpL k2, dy.dp 40 k1, shapedL_py k2, shaped_py k1, ?_⟩
      rw [count_py k2 k1]
      exact p2 _ _ _ Ext.refl r2 (.int _)
  | true =>
    simp only [if_true] at p2 ⊢
    cases q3 : dIndex d y with
    | none => rw [q3] at p2; exact p2.elim
    | some z =>
      rw [q3] at p2
      obtain ⟨k1, k2, j, rfl, k3⟩ := index_of hd q3
      obtain ⟨_, ⟨w, w1, w2⟩, w3⟩ := findIx_some k3
      rw [Nat.sub_zero] at w1 w3
      have pw := List.all_eq_true.mp k2
      refine ⟨a, _, vs, py y, pyL l, j, py w, rfl, rfl, sq, dl.dpL k2, dy.dp 40 k1, shapedL_py k2, shaped_py k1, get_pyL w1, ?_, fun m u hm hu => ?_, p2 _ _ _ Ext.refl r2 (.int _)⟩
      · rw [← eqv_py 40 w y (pw w (List.mem_of_getElem? w1)) k1]; exact w2
      · obtain ⟨x', x1, rfl⟩ := pyL_get hu
        rw [← eqv_py 40 x' y (pw x' (List.mem_of_getElem? x1)) k1]
        exact w3 m x' hm x1
/-- .. of one kind alone -/
def cntK (n : Nat) (b : Bool) (a : Op) (c : Ex) : Ex := fun g s => (a.ev g s).bind fun x s => match a.rd x s with
  | some d0 => if sqK d0 = n then (aCons c aNil g s).bind fun ys s => (match ys with
    | [y] => (match a.rd x s with
      | some d => if sqK d = n then (match (if b then dIndex d y else dCount d y) with | some r => .ok r s | none => .bad) else .bad
      | none => .bad)
    | _ => .bad) else .bad
  | none => .bad
theorem cnt_kinds (b : Bool) (a : Op) (c : Ex) (g : G) (s : S) : cntE b a c g s = .bad ∨ cntE b a c g s = cntK 1 b a c g s ∨ cntE b a c g s = cntK 2 b a c g s := by
  unfold cntE cntK
  cases qe : a.ev g s with
  | bad => exact .inl rfl
  | exc x s1 => exact .inr (.inl rfl)
  | ok x s1 =>
    simp only [Res.bind]
    cases q : a.rd x s1 with
    | none => exact .inl rfl
    | some d0 =>
      simp only
      rcases sqK_two d0 with z | z | z
      · rw [if_pos z]; exact .inl rfl
      · refine .inr (.inl ?_)
        rw [z, if_neg (by decide), if_pos rfl]
        try rfl
      · refine .inr (.inr ?_)
        rw [z, if_neg (by decide), if_pos rfl]
        try rfl
theorem cnt_gen {F : Fg} {b : Bool} {T : String} {n : Nat} {ty : V → Hp → Prop} {σ : St} {H : Hp} {Q : VK}
    (hk : ∀ {d : D}, sqK d = n → ∃ l, (d = .lst l ∨ d = .tup l) ∧ ∀ {W : Wd} {H : Hp} {v : V}, DenC F W H v d → ∃ a vs, v = .ref a ∧ ty v H ∧ SqD F T H a vs ∧ DenL F W H vs l)
    (h : tev F Wx g (cntK n b oa c) σ H Q) : tMG ty (if b then rIndex F T else rCount F T) (top F Wx g oa) (tax F Wx g (aCons c aNil)) σ H Q := by
  obtain ⟨W, s, rl, p⟩ := h
  refine top_bind rl p fun x s1 W1 H1 v e1 r1 o1 p1 => ?_
  cases q : oa.rd x s1 with
  | none => rw [q] at p1; exact p1.elim
  | some d0 =>
    simp only [q] at p1
    by_cases z : sqK d0 = n
    · rw [if_pos z] at p1
      obtain ⟨l0, _, k0⟩ := hk z
      obtain ⟨a, vs0, rfl, t0, _, _⟩ := k0 (o1.den r1 q)
      refine ⟨t0, ?_⟩
      refine tr_bind (De := DenL F) r1 p1 fun ys s2 W2 H2 us e2 r2 du p2 => ?_
      cases ys with
      | nil => exact p2.elim
      | cons y r =>
        cases r with
        | cons y2 r => exact p2.elim
        | nil =>
          simp only at p2
          cases q2 : oa.rd x s2 with
          | none => simp only [q2] at p2; exact p2.elim
          | some d =>
            simp only [q2] at p2
            by_cases z2 : sqK d = n
            · rw [if_pos z2] at p2
              obtain ⟨l, hd, k1⟩ := hk z2
              obtain ⟨a', vs, ea, _, sq, dl⟩ := k1 ((o1.ext r1 e2).den r2 q2)
              cases ea
              cases du with
              | cons dy dn =>
                cases dn
                exact cnt_fin hd sq dl dy r2 p2
            · rw [if_neg z2] at p2; exact p2.elim
    · rw [if_neg z] at p1; exact p1.elim
theorem cnt_run {F : Fg} {b : Bool} {σ : St} {H : Hp} {Q : VK} (h : tev F Wx g (cntE b oa c) σ H Q) :
    tBM F "list" (if b then rIndex F "list" else rCount F "list") (top F Wx g oa) (tax F Wx g (aCons c aNil)) σ H Q ∨
    tMG tyTz (if b then rIndex F "tuple" else rCount F "tuple") (top F Wx g oa) (tax F Wx g (aCons c aNil)) σ H Q := by
  obtain ⟨W, s, rl, p⟩ := h
  rcases cnt_kinds b oa c g s with z | z | z
  · rw [z] at p; exact p.elim
  · rw [z] at p
    refine .inl (cnt_gen (T := "list") (n := 1) (ty := fun x H => tyV F "list" x H) (fun hd => ?_) ⟨W, s, rl, p⟩)
    obtain ⟨l, rfl⟩ := sqK_lst hd
    refine ⟨l, .inl rfl, fun dv => ?_⟩
    obtain ⟨a, vs, rfl, h1, dl⟩ := dv.lst
    exact ⟨a, vs, rfl, .inl ⟨rfl, vs, SqL.of h1⟩, .inl ⟨rfl, SqL.of h1⟩, dl⟩
  · rw [z] at p
    refine .inr (cnt_gen (T := "tuple") (n := 2) (fun hd => ?_) ⟨W, s, rl, p⟩)
    obtain ⟨l, rfl, hl⟩ := sqK_tup hd
    refine ⟨l, .inr rfl, fun dv => ?_⟩
    obtain ⟨a, vs, rfl, h1, dl⟩ := dv.tup
    rcases h1 with ⟨_, o, h2, hc, hdn⟩ | h1
    · exact ⟨a, vs, rfl, ⟨a, o, vs, rfl, h2, hc, hdn⟩, .inr ⟨rfl, .inl (.inr ⟨o, h2⟩)⟩, dl⟩
    · rw [hl] at h1; cases h1.1
theorem se_cnt (b : Bool) (hu : X.A.units + 200 < cLine) (ho : PE X o (top X.K Wx g oa)) (he : PA X [e] (tax X.K Wx g (aCons c aNil))) (h1 : isStar e = false) (hl : (apos.endLine == cpos.line) = true) (m : Str) (hm : m = if b then "index" else "count")
    (hb : attributeBase o m X.env (eval o X.env) = eval o X.env) : PE X (.Call (.Attribute o m apos) [e] [] cpos) (tev X.K Wx g (cntE b oa c)) := by
  have hs : starEach [e] X.env = (false, eval e X.env) :: starEach [] X.env := starEach_of h1
  subst hm
  refine ⟨fun pins s σ H Q I0 h => ?_⟩
  cases b with
  | false =>
    rcases cnt_run (b := false) h with h | h
    · exact (pe_bm PySem.F.plainAttrs_list PySem.F.slot_list_count rfl (mt_lcountD (by omega)) ho he hb (by rw [hs]; rfl) hl hs rfl).run pins s σ H Q I0 h
    · exact (pe_mG ty_tz PySem.F.plainAttrs_tuple PySem.F.slot_tuple_count rfl (mt_tcountD (by omega)) ho he hb (by rw [hs]; rfl) hl hs rfl).run pins s σ H Q I0 h
  | true =>
    rcases cnt_run (b := true) h with h | h
    · exact (pe_bm PySem.F.plainAttrs_list PySem.F.slot_list_index rfl (mt_lindexD (by omega)) ho he hb (by rw [hs]; rfl) hl hs rfl).run pins s σ H Q I0 h
    · exact (pe_mG ty_tz PySem.F.plainAttrs_tuple PySem.F.slot_tuple_index rfl (mt_tindexD (by omega)) ho he hb (by rw [hs]; rfl) hl hs rfl).run pins s σ H Q I0 h
end
end Cy

/-! Cy: further operations, plain. -/
namespace Cy
/-- dict(d): a copy -/
def dDicC (h : List Ob) : D → Option D
  | .dic l => some (.dic l)
  | .ref n => (match h[n]? with
    | some (.dic l) => some (.dic l)
    | _ => none)
  | _ => none
/-- the keys of a dict of ints -/
def keysI : List (K × D) → Option (List Int)
  | [] => some []
  | (.i n, _) :: r => (match keysI r with
    | some ns => some (n :: ns)
    | none => none)
  | _ => none
def insI (k : Int) : List Int → List Int
  | [] => [k]
  | x :: r => if k ≤ x then k :: x :: r else x :: insI k r
def srtI (l : List Int) : List Int := l.foldr insI []
def dSortK (l : List (K × D)) : Option D := match keysI l with
  | some ns => if ns.length < 64 then some (.lst ((srtI ns).map .int)) else none
  | none => none
/-- sorted(x): a list, a tuple, or a dict whose keys are ints -/
def dSortH (h : List Ob) : D → Option D
  | .dic l => dSortK l
  | .ref n => (match h[n]? with
    | some (.dic l) => dSortK l
    | _ => none)
  | d => dSorted d
end Cy

set_option Elab.async false
set_option linter.all false
set_option maxRecDepth 100000
/-! Cy: dict(d). -/
namespace Cy
open L2 PySem PySem.Spec PyProof.Rows
theorem fr_dicC {F : Fg} : FrB1 F dDicC (fun v H Q => ∃ (a : Addr) (kvs : List (Key × V)), [v] = [V.ref a] ∧ Rd H a (.dK kvs) ∧ ∀ p, H p = none → Q (.ref p) (upd H p (.dK kvs))) := by
  intro W s σ H v d z Q r hv q k
  have main : ∀ l, DenC F W H v (.dic l) → z = .dic l → ∃ (a : Addr) (kvs : List (Key × V)), [v] = [V.ref a] ∧ Rd H a (.dK kvs) ∧ ∀ p, H p = none → Q (.ref p) (upd H p (.dK kvs)) := fun l h e => by
    subst e
    obtain ⟨a, vs, rfl, h1, dl⟩ := h.dic
    exact ⟨a, vs, rfl, h1, fun p hp => k p _ hp ⟨_, upd_same, dl.stab (r.stab_new hp)⟩⟩
  cases d with
  | dic l => cases q; exact main l hv rfl
  | ref n =>
    obtain ⟨a, rfl, hn⟩ := hv.ref
    obtain ⟨_, ob, e1, _⟩ := r.hp.refs n a hn
    have hob := r.hp.ob hn e1
    have q : (match s.h[n]? with | some (.dic l) => some (D.dic l) | _ => none) = some z := q
    rw [e1] at q
    cases ob with
    | dic l => cases q; exact main l hob rfl
    | dit l => cases q
    | lst l => cases q
  | _ => cases q
theorem sf_dicC {X : Cx} {Wx : WX} {g : G} {p pos : Pos} {e : Expr} {oa : Op} (hg : Gl X "dict") (hm : X.mg "dict" = none) (ha : PE X e (top X.K Wx g oa)) (hs : isStar e = false) : PE X (.Call (.Name "dict" p) [e] [] pos) (tfr X.K Wx g (o1 dDicC oa)) :=
  (pe_callTy call_dictD hg hm (by decide +kernel) (pa_row1 ha hs) (by decide) (by decide) (starEach_of hs) rfl).mono fun _ _ _ h => fr_one fr_dicC h
end Cy

set_option Elab.async false
set_option linter.all false
set_option maxRecDepth 100000
set_option maxHeartbeats 4000000
/-! Cy: sorted(xs), xs a list or a tuple of data that are alike. -/
namespace PySem.W
open PySem PySem.Calls PyProof.Rows
section
variable {prog : Program} {w : World} {A : Around} {E : Value → Shared → Prop} {s : Shared}
theorem collect_seqT {T : String} (hT : T = "list" ∨ T = "tuple") {l : Addr} {vs : List Value} {Q : List Value → Shared → Prop} (hl : ∃ o, s.heap.get? l = some o ∧ o.cls = .type T ∧ ∃ n, o.data = .seq vs.toArray n)
    (h : Q vs { s with heap := (s.heap.push (seqObj "list" #[] 0)).update s.heap.objs.size (Obj.mapSeq (· ++ vs.toArray)) }) (hsz : vs.length ≤ sizeLine) :
    wpAny (model prog w) A (collect (.ref l)) Q E s := by
  obtain ⟨o, ho, hc, n, hd⟩ := hl
  unfold collect
  refine wpAny_bind (wpAny_runValue (codeAny_builtin entry_proto_collect' ?_))
  show wpAny _ _ (do again (.builtin "list.__iadd__" ⟨[← newList [], .ref l], []⟩)) _ _ s
  refine wpAny_bind (wpAny_newList (wpAny_pure ⟨Code.quiet_builtin _ (by decide +kernel), codeAny_builtin entry_list_iadd' ?_⟩))
  show wpAny _ _ (Builtin.List.listExtendWith (.ref s.heap.objs.size) (.ref l) (.ref s.heap.objs.size)) _ _ { s with heap := s.heap.push (seqObj "list" #[] 0) }
  unfold Builtin.List.listExtendWith
  have ho' : (s.heap.push (seqObj "list" #[] 0)).get? l = some o := Heap.get?_push_of_some _ ho
  refine wpAny_bind (wpAny_typeOf (T := T) ⟨o, ho', hc⟩ ?_)
  have ht1 : (Value.type "list" == Value.type "list") = true := by rfl
  have ht2 : (Value.type "tuple" == Value.type "tuple") = true := by rfl
  rw [if_pos (by rcases hT with rfl | rfl <;> simp [ht1, ht2])]
  refine wpAny_bind (listItems_at ho' hd ?_)
  refine wpAny_bind (listItems_at (xs := #[]) (n := 0) (Heap.get?_push_size _ rfl) rfl ?_)
  rw [if_neg (by simp)]
  refine wpAny_bind (listUpdate_at (xs := #[]) (n := 0) (Heap.get?_push_size _ rfl) rfl ?_ (Nat.zero_le _) (by show (#[] ++ vs.toArray).size ≤ sizeLine + 1; simp only [Array.size_append, List.size_toArray, List.length_nil]; omega))
  refine wpAny_pure ?_
  show wpAny (model prog w) A (do
      let o ← load s.heap.objs.size
      match o.data with
      | .seq xs _ => pure xs.toList
      | _ => unsupported "internal:collect") Q E { s with heap := (s.heap.push (seqObj "list" #[] 0)).update s.heap.objs.size (Obj.mapSeq (· ++ vs.toArray)) }
  refine wpAny_bind (wpAny_load (get?_update_seq (Heap.get?_push_size _ rfl) _) ?_)
  show wpAny _ _ (pure ((#[] : Array Value) ++ vs.toArray).toList) Q E _
  rw [show ((#[] : Array Value) ++ vs.toArray).toList = vs by simp]
  exact wpAny_pure h
theorem sorted_of_sortT {T : String} (hT : T = "list" ∨ T = "tuple") {l : Addr} {vs : List Value} {kw : List (Str × Value)} {Q : Value → Shared → Prop} (hl : ∃ o, s.heap.get? l = some o ∧ o.cls = .type T ∧ ∃ n, o.data = .seq vs.toArray n) (hL : vs.length ≤ sizeLine) (ha1 : argsOk "sorted" ⟨[.ref l], kw⟩) (ha2 : ∀ x, argsOk "list.sort" ⟨[.ref x], kw⟩)
    (body : ∀ E' : Value → Shared → Prop, wpAny (model prog w) A.in1.in1 (Builtin.«list.sort» ⟨[.ref (s.heap.objs.size + 1)], kw⟩) (fun f s' => f = .done (.ret .none) ∧ Q (.ref (s.heap.objs.size + 1)) s') E' { s with heap := copyHeap s.heap vs }) :
    wpAny (model prog w) A (call (.builtin "sorted") [.ref l] kw) Q E s := by
  refine call_function_entry_kw kind_sorted plain_sorted entry_sorted ha1 ?_
  unfold Builtin.«sorted»
  refine wpAny_bind (m := checkCount "sorted" 1 1 _) (wpAny_pure ?_)
  refine wpAny_bind (collect_seqT hT hl ?_ hL)
  refine wpAny_bind (wpAny_newList ?_ hL)
  have hsz : ((s.heap.push (seqObj "list" #[] 0)).update s.heap.objs.size (Obj.mapSeq (· ++ vs.toArray))).objs.size = s.heap.objs.size + 1 := by
    rw [Heap.size_update, size_push']
  show wpAny _ _ _ _ _ { s with heap := copyHeap s.heap vs }
  rw [hsz]
  refine wpAny_bind (wpAny_holding (wpAny_call_entry_kw slot_list_sort ⟨_, copyHeap_at s.heap vs, rfl⟩ entry_list_sort ?body (ha2 _)))
  case body =>
    show wpAny (model prog w) A.in1.in1 (Builtin.«list.sort» ⟨[.ref (s.heap.objs.size + 1)], kw⟩) _ _ _
    refine wpAny_mono (body _) (fun f s' hf => ?_) fun _ _ e => e
    obtain ⟨rfl, hq⟩ := hf
    exact ⟨_, rfl, wpAny_pure ⟨_, rfl, hq⟩⟩
/-- sorted(xs), xs a list or a tuple -/
theorem sorted_dataT {T : String} (hT : T = "list" ∨ T = "tuple") {β : Type} {vs : List Value} {bs : List β} {enc : β → PyData} {R : Value → β → Prop} {l : Addr} {Q : Value → Shared → Prop} (hl : ∃ o, s.heap.get? l = some o ∧ o.cls = .type T ∧ ∃ n, o.data = .seq vs.toArray n)
    (e : EachIs R vs bs) (er : EachIs (fun v b => ∃ as, Reads s.heap v (enc b) as) vs bs) (hal : AllAlike (bs.map enc)) (hk : Sortable (bs.map enc)) (hL : bs.length ≤ sizeLine)
    (hu : ∀ b, b ∈ bs → A.units + 2 + (enc b).depth < cLine) (h : ∀ out, out.length = bs.length → EachIs R out (bs.mergeSort (dataLe false enc)) → Q (.ref (s.heap.objs.size + 1)) { s with heap := sortedAll s.heap vs (List.toArray out) }) :
    wpAny (model prog w) A (call (.builtin "sorted") [.ref l]) Q E s := by
  have er' : EachIs (fun v b => ∃ as, Reads (sortingHeap (copyHeap s.heap vs) (s.heap.objs.size + 1) vs) v (enc b) as) vs bs := er.mono fun _ _ ⟨as, r⟩ => ⟨as, PyProof.Rows.Reads.keeps (fun _ _ => sorting_copy_old) r⟩
  have hL' : vs.length ≤ sizeLine := by rw [e.length]; exact hL
  refine sorted_of_sortT hT hl hL' (args_sorted1 _) (fun _ => args_list_sort _) fun _ => list_sort_vals (κ := dataKind (sortingHeap (copyHeap s.heap vs) (s.heap.objs.size + 1) vs) (bs.map enc)) (s := { s with heap := copyHeap s.heap vs }) (copyHeap_at s.heap vs) ?_ hL' ⟨rfl, ?_⟩
  · exact SortsAt.data (s := { s with heap := sortingHeap (copyHeap s.heap vs) (s.heap.objs.size + 1) vs }) (each_map (R := fun v d => ∃ as, Reads (sortingHeap (copyHeap s.heap vs) (s.heap.objs.size + 1) vs) v d as) enc er') hal hk (bound_map hu)
  · exact h _ (by rw [sortVals_length false rfl]; exact e.length) (sortVals_data false e er' hal)
end
end PySem.W
namespace Cy
open L2 PySem PySem.Spec PyProof.Rows
/-- sorted(xs) -/
def rSort (F : Fg) (v : V) (H : Hp) (Q : VK) : Prop := ∃ (T : String) (a : Addr) (vs : List V) (ds : List PyData), v = .ref a ∧ SqD F T H a vs ∧ DpAll F H vs ds ∧ PySem.W.AllAlike ds ∧ PySem.W.Sortable ds ∧ (∀ d ∈ ds, d.depth ≤ 64) ∧
  ∀ p, H p = none → Q (.ref p) (upd H p (.lst (((vs.zip ds).mergeSort (PySem.W.dataLe false Prod.snd)).map Prod.fst)))
theorem eachs {H : Hp} {X : Cx} {pins : List (Addr × Obj)} {σ : L2.St} {s : Shared} (I : Inv X pins σ H s) : ∀ {vs : List V} {us : List Value} {ds : List PyData}, Vals vs us → DpAll X.K H vs ds →
    PySem.W.EachIs (fun u (b : V × PyData) => RelV b.1 u) us (vs.zip ds) ∧ PySem.W.EachIs (fun u (b : V × PyData) => ∃ as, Reads s.heap u b.2 as) us (vs.zip ds) ∧ (vs.zip ds).map Prod.snd = ds
  | _, _, _, .nil, .nil => ⟨.nil, .nil, rfl⟩
  | _, _, _, .cons r rs, .cons d dd => by
    obtain ⟨e1, e2, e3⟩ := eachs I rs dd
    obtain ⟨as, q⟩ := Dp.reads I _ _ _ d r
    refine ⟨.cons r e1, .cons ⟨as, q⟩ e2, ?_⟩
    rw [List.zip_cons_cons, List.map_cons, e3]
theorem vals_each : ∀ {us : List Value} {bs : List (V × PyData)}, PySem.W.EachIs (fun u (b : V × PyData) => RelV b.1 u) us bs → Vals (bs.map Prod.fst) us
  | _, _, .nil => .nil
  | _, _, .cons h t => .cons h (vals_each t)
section
variable {X : Cx} {a : Expr} {ta : TE} {p p2 q pos : Pos}
theorem cr_sort (hu : X.A.units + 67 < cLine) : CallR X (.builtin "sorted") (fun xs H Q => ∃ v, xs = [v] ∧ rSort X.K v H Q) := by
  intro pins s1 σ H1 xs us Q I1 r q1
  obtain ⟨v, rfl, q1⟩ := q1
  obtain ⟨u, rfl, r1⟩ := vals1 r
  obtain ⟨T, l, vs, ds, rfl, hq, hv, hal, hk, hd, q1⟩ := q1
  cases r1
  obtain ⟨its, rv, hz, hT, hl⟩ : ∃ its : List Value, Vals vs its ∧ its.length ≤ sizeLine ∧ (T = "list" ∨ T = "tuple") ∧ ∃ o, s1.heap.get? l = some o ∧ o.cls = .type T ∧ ∃ n, o.data = .seq its.toArray n := by
    rcases hq with ⟨rfl, hq⟩ | ⟨rfl, hq⟩
    · obtain ⟨its, rv, ⟨o, n, ho, hc, hdn, hd2⟩, hlen⟩ := I1.list hq
      exact ⟨its, rv, by have := rv.length; omega, .inl rfl, o, ho, hc, n, hd2⟩
    · obtain ⟨its, rv, ⟨o, ho, hc, n, hd2⟩, hlen⟩ := I1.tuple hq
      exact ⟨its, rv, by have := rv.length; omega, .inr rfl, o, ho, hc, n, hd2⟩
  obtain ⟨e1, e2, e3⟩ := eachs I1 rv hv
  have hlen : (vs.zip ds).length ≤ sizeLine := by rw [← e1.length]; exact hz
  refine PySem.W.sorted_dataT (enc := Prod.snd) hT hl e1 e2 (by rw [e3]; exact hal) (by rw [e3]; exact hk) hlen (fun b hb => ?_) fun out ho eo => ?_
  · have hb2 : b.2 ∈ ds := by rw [← e3]; exact List.mem_map_of_mem hb
    have := hd _ hb2; omega
  · obtain ⟨c, hc⟩ := sortedAll_at s1.heap its (List.toArray out)
    have J : Inv X pins σ (upd H1 (s1.heap.objs.size + 1) (.lst (((vs.zip ds).mergeSort (PySem.W.dataLe false Prod.snd)).map Prod.fst))) { s1 with heap := sortedAll s1.heap its (List.toArray out), toks := s1.toks } :=
      I1.laid (fun _ _ e => sortedAll_old e) (Nat.le_succ _) ⟨by rw [List.length_map, List.length_mergeSort]; exact hlen, out, c, vals_each eo, hc⟩
    exact ⟨.ref (s1.heap.objs.size + 1), _, J, rfl, q1 _ (I1.hok.fresh (Nat.le_succ _))⟩
end

/-! what the code computes -/
mutual
theorem tk_py : ∀ d : D, PySem.W.keyToks (py d) = tkD d
  | .non => by simp only [py, tkD, PySem.W.keyToks]
  | .bl b => by simp only [py, tkD, PySem.W.keyToks]
  | .int i => by simp only [py, tkD, PySem.W.keyToks]
  | .str x => by simp only [py, tkD, PySem.W.keyToks, st]
  | .tup l => by simp only [py, tkD, PySem.W.keyToks]; exact tkL_py l
  | .lst l => by simp only [py, tkD, PySem.W.keyToks]; exact tkL_py l
  | .dic _ => by simp only [py, tkD, PySem.W.keyToks]
  | .dit _ => by simp only [py, tkD, PySem.W.keyToks]
  | .ref _ => by simp only [py, tkD, PySem.W.keyToks]
  | .fro _ => by simp only [py, tkD, PySem.W.keyToks]
  | .frt _ => by simp only [py, tkD, PySem.W.keyToks]
  | .rep _ => by simp only [py, tkD, PySem.W.keyToks]
theorem tkL_py : ∀ l : List D, PySem.W.keyToksAll (pyL l) = tkL l
  | [] => by simp only [pyL, tkL, PySem.W.keyToksAll]
  | x :: r => by simp only [pyL, tkL, PySem.W.keyToksAll, tk_py x, tkL_py r]
end
mutual
theorem alk_py : ∀ x y : D, alk x y = true → PySem.W.alike (py x) (py y) = true
  | .non, y, h => by cases y <;> simp [alk] at h; rfl
  | .bl b, y, h => by cases y <;> simp [alk] at h; rfl
  | .int i, y, h => by cases y <;> simp [alk] at h; rfl
  | .str x, y, h => by cases y <;> simp [alk] at h; rfl
  | .tup l, y, h => by
    cases y <;> simp only [alk, Bool.false_eq_true] at h
    simp only [py, PySem.W.alike]
    exact alkL_py l _ h
  | .lst l, y, h => by
    cases y <;> simp only [alk, Bool.false_eq_true] at h
    simp only [py, PySem.W.alike]
    exact alkL_py l _ h
  | .dic _, y, h => by simp [alk] at h
  | .dit _, y, h => by simp [alk] at h
  | .ref _, y, h => by simp [alk] at h
  | .fro _, y, h => by simp [alk] at h
  | .frt _, y, h => by simp [alk] at h
  | .rep _, y, h => by simp [alk] at h
theorem alkL_py : ∀ x y : List D, alkL x y = true → PySem.W.alikeAll (pyL x) (pyL y) = true
  | [], y, h => by cases y <;> simp [pyL, PySem.W.alikeAll]
  | x :: l, [], h => by simp [pyL, PySem.W.alikeAll]
  | x :: l, y :: m, h => by
    simp only [alkL, Bool.and_eq_true] at h
    simp only [pyL, PySem.W.alikeAll, Bool.and_eq_true]
    exact ⟨alk_py x y h.1, alkL_py l m h.2⟩
end
theorem lexLt_lt : ∀ x y : Nm, lexLt x y = PyProof.Rows.strKind.blt x y := by
  intro x y
  show _ = decide (x < y)
  induction x generalizing y with
  | nil => cases y <;> simp [lexLt]
  | cons a x ih =>
    cases y with
    | nil => simp [lexLt]
    | cons b y =>
      unfold lexLt
      by_cases e : a = b
      · subst e
        rw [if_pos rfl, ih]
        simp [List.cons_lt_cons_iff]
      · rw [if_neg e]
        simp [List.cons_lt_cons_iff, e]
theorem tkLt_eq (x y : Int ⊕ Nm) : tkLt x y = PyProof.Rows.itemLt x y := by
  cases x <;> cases y <;> simp only [tkLt, PyProof.Rows.itemLt]
  exact lexLt_lt _ _
theorem tksLt_eq : ∀ x y : List (Int ⊕ Nm), tksLt x y = PyProof.Rows.lexLt PyProof.Rows.itemOrd x y
  | [], [] => rfl
  | [], _ :: _ => rfl
  | _ :: _, [] => rfl
  | x :: r, y :: t => by
    rw [PyProof.Rows.lex_cons, tksLt, tksLt_eq r t, tkLt_eq, tkLt_eq]
theorem ltD_py (x y : D) : ltD x y = PySem.W.dataLt (py x) (py y) := by
  unfold ltD PySem.W.dataLt
  rw [tksLt_eq, tk_py, tk_py]

def leD (x y : D) : Bool := !ltD y x
theorem leD_eq : leD = PySem.W.sortLe (PyProof.Rows.listOrd PyProof.Rows.itemOrd) false tkD := by
  funext x y
  show (!tksLt (tkD y) (tkD x)) = !(PyProof.Rows.lexLt PyProof.Rows.itemOrd (tkD y) (tkD x))
  rw [tksLt_eq]
theorem leD_total : PySem.W.TotalLe leD := by rw [leD_eq]; exact PySem.W.sortLe_total _ _ _
theorem insL_mid {a : D} {l2 : List D} (h2 : ∀ b r, l2 = b :: r → leD a b = true) : ∀ l1 : List D, (∀ b ∈ l1, leD a b = false) → insL a (l1 ++ l2) = l1 ++ a :: l2
  | [], _ => by
    cases l2 with
    | nil => rfl
    | cons b r =>
      have := h2 b r rfl
      unfold leD at this
      rw [Bool.not_eq_true'] at this
      show (if ltD b a = true then b :: insL a r else a :: b :: r) = _
      rw [if_neg (by rw [this]; exact Bool.false_ne_true)]; rfl
  | b :: l1, h => by
    have := h b List.mem_cons_self
    unfold leD at this
    rw [Bool.not_eq_false'] at this
    show (if ltD b a = true then b :: insL a (l1 ++ l2) else _) = _
    rw [if_pos this, insL_mid h2 l1 fun c hc => h c (List.mem_cons_of_mem _ hc)]; rfl
theorem srt_eq : ∀ l : List D, srtD l = l.mergeSort leD
  | [] => by simp [srtD]
  | a :: l => by
    have tr : ∀ a b c : D, leD a b = true → leD b c = true → leD a c = true := leD_total.trans
    have tt : ∀ a b : D, (leD a b || leD b a) = true := fun a b => Bool.or_eq_true_iff.mpr (leD_total.total a b)
    obtain ⟨l1, l2, e1, e2, h⟩ := List.mergeSort_cons tr tt a l
    show insL a (srtD l) = _
    rw [srt_eq l, e2, e1]
    refine insL_mid (fun b r e => ?_) l1 fun b hb => by simpa using h b hb
    have pw : (l1 ++ a :: l2).Pairwise (fun a b => leD a b = true) := by rw [← e1]; exact PySem.W.sort_pairwise leD_total (a :: l)
    rw [List.pairwise_append] at pw
    subst e
    exact (List.pairwise_cons.mp pw.2.1).1 b List.mem_cons_self
theorem den_eachs {F : Fg} {W : Wd} {H : Hp} : ∀ {vs : List V} {l : List D}, DenL F W H vs l → PySem.W.EachIs (fun (a : V × PyData) d => Den F W H a.1 d ∧ a.2 = py d) (vs.zip (pyL l)) l
  | _, _, .nil => .nil
  | _, _, .cons h t => by
    rw [pyL, List.zip_cons_cons]
    exact .cons ⟨h, rfl⟩ (den_eachs t)
theorem each_den {F : Fg} {W : Wd} {H : Hp} : ∀ {xs : List (V × PyData)} {l : List D}, PySem.W.EachIs (fun (a : V × PyData) d => Den F W H a.1 d ∧ a.2 = py d) xs l → DenL F W H (xs.map Prod.fst) l
  | _, _, .nil => .nil
  | _, _, .cons h t => .cons h.1 (each_den t)
theorem denL_sort {F : Fg} {W : Wd} {H : Hp} {vs : List V} {l : List D} (h : DenL F W H vs l) : DenL F W H (((vs.zip (pyL l)).mergeSort (PySem.W.dataLe false Prod.snd)).map Prod.fst) (srtD l) := by
  rw [srt_eq]
  refine each_den (PySem.W.sort_each (den_eachs h) fun p hp q hq => ?_)
  have e1 := ((den_eachs h).zip p hp).2
  have e2 := ((den_eachs h).zip q hq).2
  show (!PySem.W.dataLt q.1.2 p.1.2) = !ltD q.2 p.2
  rw [e1, e2, ltD_py]
theorem sort_facts {F : Fg} {W : Wd} {H : Hp} {vs : List V} {l : List D} (h : DenL F W H vs l) (q : canSort l = true) : DpAll F H vs (pyL l) ∧ PySem.W.AllAlike (pyL l) ∧ PySem.W.Sortable (pyL l) ∧ ∀ d ∈ pyL l, d.depth ≤ 64 := by
  unfold canSort at q
  rw [Bool.and_eq_true, Bool.and_eq_true] at q
  obtain ⟨⟨q1, q2⟩, q3⟩ := q
  rw [pyL_map]
  refine ⟨by rw [← pyL_map]; exact h.dpL q1, ?_, ?_, ?_⟩
  · intro d hd e he
    obtain ⟨x, hx, rfl⟩ := List.mem_map.mp hd
    obtain ⟨y, hy, rfl⟩ := List.mem_map.mp he
    exact alk_py x y (List.all_eq_true.mp (List.all_eq_true.mp q2 x hx) y hy)
  · unfold srtable at q3
    rw [Bool.or_eq_true] at q3
    rcases q3 with q3 | q3
    · refine .inl fun d hd => ?_
      obtain ⟨x, hx, rfl⟩ := List.mem_map.mp hd
      have := List.all_eq_true.mp q3 x hx
      match x, this with
      | .tup (y :: r), _ => exact ⟨py y, pyL r, by simp only [py, pyL]⟩
    · refine .inr fun d hd => ?_
      obtain ⟨x, hx, rfl⟩ := List.mem_map.mp hd
      have t := List.all_eq_true.mp q3 x hx
      have pl1 := List.all_eq_true.mp q1 x hx
      cases x with
      | bl _ => exact And.intro (by simp only [py]; intro z; cases z) (fun xs => by simp only [py]; intro z; cases z)
      | int _ => exact And.intro (by simp only [py]; intro z; cases z) (fun xs => by simp only [py]; intro z; cases z)
      | str _ => exact And.intro (by simp only [py]; intro z; cases z) (fun xs => by simp only [py]; intro z; cases z)
      | lst _ => exact And.intro (by simp only [py]; intro z; cases z) (fun xs => by simp only [py]; intro z; cases z)
      | non => exact absurd t Bool.false_ne_true
      | tup _ => exact absurd t Bool.false_ne_true
      | _ => exact absurd pl1 (by simp [plain, pl])
  · intro d hd
    obtain ⟨x, hx, rfl⟩ := List.mem_map.mp hd
    have := (lay_py 40 x (List.all_eq_true.mp q1 x hx)).2
    omega
theorem pr_sort {F : Fg} : Prim1 F (fun _ => dSorted) (rSort F) := by
  intro W s σ H v d z Q r hv q k
  cases d with
  | lst l =>
    unfold dSorted at q
    simp only at q
    by_cases c : canSort l = true
    · rw [if_pos c] at q
      cases q
      obtain ⟨a, vs, rfl, h, dl⟩ := hv.lst
      obtain ⟨f1, f2, f3, f4⟩ := sort_facts dl c
      exact ⟨"list", a, vs, pyL l, rfl, .inl ⟨rfl, SqL.of h⟩, f1, f2, f3, f4, fun p hn => Ends1.lst (W := W) (s := s) (σ := σ) k r (denL_sort dl) p hn⟩
    · rw [if_neg c] at q; cases q
  | tup l =>
    unfold dSorted at q
    simp only at q
    by_cases c : canSort l = true
    · rw [if_pos c] at q
      cases q
      obtain ⟨a, vs, rfl, h, dl⟩ := hv.tup
      obtain ⟨f1, f2, f3, f4⟩ := sort_facts dl c
      exact ⟨"tuple", a, vs, pyL l, rfl, .inr ⟨rfl, h.sq⟩, f1, f2, f3, f4, fun p hn => Ends1.lst (W := W) (s := s) (σ := σ) k r (denL_sort dl) p hn⟩
    · rw [if_neg c] at q; cases q
  | _ => cases q
theorem srtI_perm : ∀ l : List Int, (srtI l).Perm l := by
  have key : ∀ (k : Int) (l : List Int), (insI k l).Perm (k :: l) := fun k l => by
    induction l with
    | nil => exact .refl _
    | cons x r ih =>
      unfold insI
      split
      · exact .refl _
      · exact (ih.cons x).trans (.swap k x r)
  intro l
  induction l with
  | nil => exact .refl _
  | cons x r ih => exact (key x (srtI r)).trans (ih.cons x)
theorem srtI_pw : ∀ l : List Int, (srtI l).Pairwise (· ≤ ·) := by
  have mem : ∀ (k y : Int) (l : List Int), y ∈ insI k l → y = k ∨ y ∈ l := fun k y l => by
    induction l with
    | nil => intro h; exact .inl (List.mem_singleton.mp h)
    | cons x r ih =>
      unfold insI
      split
      · intro h; exact List.mem_cons.mp h
      · intro h
        rcases List.mem_cons.mp h with h | h
        · exact .inr (h ▸ List.mem_cons_self)
        · exact (ih h).imp id (List.mem_cons_of_mem _)
  have key : ∀ (k : Int) (l : List Int), l.Pairwise (· ≤ ·) → (insI k l).Pairwise (· ≤ ·) := fun k l => by
    induction l with
    | nil => intro _; exact List.pairwise_singleton _ _
    | cons x r ih =>
      intro h
      have h' := List.pairwise_cons.mp h
      unfold insI
      split
      · rename_i q
        refine List.pairwise_cons.mpr ⟨fun y hy => ?_, h⟩
        rcases List.mem_cons.mp hy with rfl | hy
        · exact q
        · exact Int.le_trans q (h'.1 y hy)
      · rename_i q
        refine List.pairwise_cons.mpr ⟨fun y hy => ?_, ih h'.2⟩
        rcases mem k y r hy with rfl | hy
        · omega
        · exact h'.1 y hy
  intro l
  induction l with
  | nil => exact .nil
  | cons x r ih => exact key x _ ih
theorem keys_den {F : Fg} {W : Wd} {H : Hp} : ∀ {vs : List (Key × V)} {l : List (K × D)} {ns : List Int}, DenK F W H vs l → keysI l = some ns → vs.map (·.1) = ns.map Sum.inl
  | _, _, ns, .nil, e => by cases e; rfl
  | _, (k, d) :: l, ns, .cons h r, e => by
    cases k with
    | s x => cases e
    | i n =>
      unfold keysI at e
      cases q : keysI l with
      | none => rw [q] at e; cases e
      | some ms =>
        rw [q] at e
        cases e
        simp only [List.map_cons, keys_den r q, kk]
def rSortAny (F : Fg) (v : V) (H : Hp) (Q : VK) : Prop := (∃ v', [v] = [v'] ∧ rSort F v' H Q) ∨ ∃ (a : Addr) (kvs : List (Key × V)) (ks : List Int), [v] = [.ref a] ∧ Rd H a (.dK kvs) ∧ kvs.map (·.1) = ks.map Sum.inl ∧ ks.length < 64 ∧
    ∀ (ys : List Int) (p : Addr), ys.Perm ks → ys.Pairwise (· ≤ ·) → H p = none → Q (.ref p) (upd H p (.lst (ys.map V.int)))
theorem pr_sortH {F : Fg} : Prim1 F dSortH (rSortAny F) := by
  intro W s σ H v d z Q r hv q k
  have main : ∀ l, DenC F W H v (.dic l) → dSortK l = some z → rSortAny F v H Q := fun l h q => by
    obtain ⟨a, vs, rfl, h1, dl⟩ := h.dic
    unfold dSortK at q
    cases qk : keysI l with
    | none => simp only [qk] at q; cases q
    | some ns =>
      simp only [qk] at q
      by_cases hl : ns.length < 64
      · rw [if_pos hl] at q
        cases q
        refine .inr ⟨a, vs, ns, rfl, h1, keys_den dl qk, hl, fun ys p hp hw hn => ?_⟩
        have e : ys = srtI ns := List.Perm.eq_of_pairwise (le := (· ≤ ·)) (fun a b _ _ h1 h2 => Int.le_antisymm h1 h2) hw (srtI_pw ns) (hp.trans (srtI_perm ns).symm)
        rw [e]
        exact Ends1.lst (W := W) (s := s) (σ := σ) k r (den_ints' (srtI ns)) p hn
      · rw [if_neg hl] at q; cases q
  cases d with
  | dic l => exact main l hv q
  | ref n =>
    obtain ⟨a, rfl, hn⟩ := hv.ref
    obtain ⟨_, ob, e1, _⟩ := r.hp.refs n a hn
    have hob := r.hp.ob hn e1
    have q : (match s.h[n]? with | some (.dic l) => dSortK l | _ => none) = some z := q
    rw [e1] at q
    cases ob with
    | dic l => exact main l hob q
    | dit l => cases q
    | lst l => cases q
  | lst l => exact .inl ⟨v, rfl, pr_sort W s σ H v _ z Q r hv q k⟩
  | tup l => exact .inl ⟨v, rfl, pr_sort W s σ H v _ z Q r hv q k⟩
  | _ => cases q
theorem se_sort {X : Cx} {Wx : WX} {g : G} {a : Expr} {p pos : Pos} {oa : Op} (hcalm : X.calm = true) (hu : X.A.units + 200 < cLine) (hg : Gl X "sorted") (hm : X.mg "sorted" = none) (ha : PE X a (top X.K Wx g oa)) (na : isStar a = false) :
    PE X (.Call (.Name "sorted" p) [a] [] pos) (tev X.K Wx g (o1 dSortH oa)) :=
  (pe_callB ((cr_sort (by omega)).or (call_sortedDI hcalm)) hg hm (by decide +kernel) (pa_row1 ha na) (by decide) (by decide) (starEach_of na) rfl).mono fun _ _ _ h => rd_one pr_sortH h
end Cy

set_option Elab.async false
set_option linter.all false
set_option maxRecDepth 100000
set_option maxHeartbeats 1000000
/-! Cy: list(zip(xs, ys)). -/
namespace Cy
open L2 PySem PySem.Spec PyProof.Rows

/-- a zip whose last pair, at a, lives on -/
abbrev ZipA (h : Heap) (z TI TO a : Addr) (b : Bool) : Prop := h.get? z = some { cls := .type "zip", dict := none, data := .fields #[rawInt a, .bool b, .bool false, .ref TI, .ref TO], slots := #[] }
section
variable {prog : Program} {w : World} {A : Around} {E : Value → Shared → Prop} {s : Shared} {z TI TO i1 i2 a sx : Addr} {b : Bool} {fp1 fp2 : List Addr} {n1 n2 i : Nat} {P1 P2 : Nat → Value → Prop} {St1 St2 : Nat → Heap → Prop}
theorem owned_no {Q : Bool → Shared → Prop} {oa : Obj} (hz : ZipA s.heap z TI TO a b) (ha : s.heap.get? a = some oa) (h : ∀ g, ZipA g z TI TO a true → Heap.SameBut z s.heap g → Q false { s with heap := g }) :
    wpAny (model prog w) A (Builtin.SmallTypes.ownedTupleIsFree (.ref z)) Q E s := by
  unfold Builtin.SmallTypes.ownedTupleIsFree
  refine wpAny_bind (wpAny_field hz rfl (x := rawInt a) rfl ?_)
  show wpAny _ _ (loadIfAlive (a : Int).toNat >>= _) _ _ _
  have e : ((a : Nat) : Int).toNat = a := by simp
  rw [e]
  refine wpAny_bind (PySem.W.kdx_alive ha ?_)
  simp only [Option.isNone_some, Bool.false_eq_true, if_false]
  refine wpAny_bind (wpAny_field hz rfl (x := .bool b) rfl ?_)
  cases b with
  | true =>
    simp
    exact wpAny_pure (h s.heap hz (Heap.SameBut.refl _ _))
  | false =>
    simp
    rw [map_eq_pure_bind]
    exact wpAny_bind (wpAny_setField_rec hz (by simp) fun g h1 h2 => wpAny_pure (h g h1 h2))
/-- the next pair, a new tuple -/
theorem zipA_item {Q : Value → Shared → Prop} {oa : Obj} (S : ZipSep2 z TI TO i1 i2 fp1 fp2) (D1 : Draws prog w A i1 fp1 n1 P1 St1) (D2 : Draws prog w A i2 fp2 n2 P2 St2)
    (hz : ZipA s.heap z TI TO a b) (ha : s.heap.get? a = some oa) (hTI : IsTupOf2 s.heap TI (.ref i1) (.ref i2)) (st1 : St1 i s.heap) (st2 : St2 i s.heap) (l1 : i < n1) (l2 : i < n2)
    (hQ : ∀ x1 x2 g tk, P1 i x1 → P2 i x2 → ZipA g z TI TO a true → St1 (i + 1) g → St2 (i + 1) g → IsTupOf2 g s.heap.objs.size x1 x2 → g.objs.size = s.heap.objs.size + 1 →
      (∀ c o, c ≠ z → c ≠ i1 → c ≠ i2 → s.heap.get? c = some o → g.get? c = some o) → Q (.ref s.heap.objs.size) { s with heap := g, toks := tk }) :
    wpAny (model prog w) A (Builtin.«zip.__next__» ⟨[.ref z], []⟩) (fun fin s' => ∃ v, fin = .done (.ret v) ∧ Q v s') E s := by
  obtain ⟨hp, ge, d, tk0, os⟩ := s
  show wpAny _ _ (field (.ref z) 2 >>= _) _ _ _
  refine wpAny_bind (wpAny_field hz rfl (x := .bool false) rfl ?_)
  show wpAny _ _ (field (.ref z) 3 >>= _) _ _ _
  refine wpAny_bind (wpAny_field hz rfl (x := .ref TI) rfl ?_)
  refine wpAny_bind (wpAny_seqItems hTI rfl ?_)
  show wpAny _ _ (Builtin.SmallTypes.ownedTupleIsFree (.ref z) >>= _) _ _ _
  refine wpAny_bind (owned_no hz ha fun g0 hz0 hs0 => ?_)
  replace hs0 : Heap.SameBut z hp g0 := hs0
  simp only [Bool.false_eq_true, if_false]
  refine wpAny_bind ?_
  rw [← Array.forIn_toList]
  simp only [List.forIn_cons, List.forIn_nil]
  refine wpAny_bind (wpAny_bind (wpAny_holding ?_))
  show wpAny _ _ (Builtin.SmallTypes.nextOf (.ref i1) >>= _) _ _ ⟨g0, ge, d, tk0, os⟩
  refine wpAny_bind (D1.item i _ _ _ l1 (D1.over st1 hs0 S.zf1) fun x1 g1 tk1 p1 sn1 hs1 => wpAny_pure ?_)
  replace hs1 : Heap.SameBut i1 g0 g1 := hs1
  refine wpAny_pure ?_
  refine wpAny_bind (wpAny_bind (wpAny_holding ?_))
  show wpAny _ _ (Builtin.SmallTypes.nextOf (.ref i2) >>= _) _ _ ⟨g1, ge, d, tk1, os⟩
  refine wpAny_bind (D2.item i _ _ _ l2 (D2.over (D2.over st2 hs0 S.zf2) hs1 S.sep1_2) fun x2 g2 tk2 p2 sn2 hs2 => wpAny_pure ?_)
  replace hs2 : Heap.SameBut i2 g1 g2 := hs2
  refine wpAny_pure (wpAny_pure ?_)
  refine wpAny_bind (wpAny_newTuple (hsz := by show (2 : Nat) ≤ sizeLine; decide) ?_)
  have sz : g2.objs.size = hp.objs.size := by rw [hs2.1, hs1.1, hs0.1]
  refine wpAny_pure ⟨_, rfl, ?_⟩
  have up : ∀ c o, c ≠ z → c ≠ i1 → c ≠ i2 → hp.get? c = some o → g2.get? c = some o := fun c o cz c1 c2 e => hs2.extBut _ _ c2 (hs1.extBut _ _ c1 (hs0.extBut _ _ cz e))
  have nw : IsTupOf2 (g2.push { cls := .type "tuple", data := .seq #[x1, x2] }) g2.objs.size x1 x2 := Heap.get?_push_size _ rfl
  have fin := hQ x1 x2 (g2.push { cls := .type "tuple", data := .seq #[x1, x2] }) tk2 p1 p2 (Heap.get?_push_of_some _ (hs2.extBut _ _ S.zi2 (hs1.extBut _ _ S.zi1 hz0)))
    (D1.frame _ _ _ (D1.over sn1 hs2 S.sep2_1) fun b _ o e => Heap.get?_push_of_some _ e) (D2.frame _ _ _ sn2 fun b _ o e => Heap.get?_push_of_some _ e) (by rw [← sz]; exact nw) (by rw [Heap.size_push, sz]) fun c o cz c1 c2 e => Heap.get?_push_of_some _ (up c o cz c1 c2 e)
  have e2 : (Value.ref hp.objs.size) = .ref g2.objs.size := by rw [sz]
  rw [show Value.ref g2.objs.size = Value.ref hp.objs.size from e2.symm]
  exact fin
/-- .. there is none left -/
theorem zipA_end {Q : PySem.Fin → Shared → Prop} {oa : Obj} (S : ZipSep2 z TI TO i1 i2 fp1 fp2) (D1 : Draws prog w A i1 fp1 n1 P1 St1) (D2 : Draws prog w A i2 fp2 n2 P2 St2)
    (hz : ZipA s.heap z TI TO a b) (ha : s.heap.get? a = some oa) (hTI : IsTupOf2 s.heap TI (.ref i1) (.ref i2)) (st1 : St1 i s.heap) (st2 : St2 i s.heap) (l1 : i ≤ n1) (l2 : i ≤ n2) (hend : i = n1 ∨ i = n2)
    (hE : ∀ g tk e, (∀ c o, c ≠ z → c ≠ i1 → c ≠ i2 → s.heap.get? c = some o → g.get? c = some o) → (∃ o, g.get? e = some o ∧ o.cls = .type "StopIteration") → E (.ref e) { s with heap := g, toks := tk }) :
    wpAny (model prog w) A (Builtin.«zip.__next__» ⟨[.ref z], []⟩) Q E s := by
  obtain ⟨hp, ge, d, tk0, os⟩ := s
  show wpAny _ _ (field (.ref z) 2 >>= _) _ _ _
  refine wpAny_bind (wpAny_field hz rfl (x := .bool false) rfl ?_)
  show wpAny _ _ (field (.ref z) 3 >>= _) _ _ _
  refine wpAny_bind (wpAny_field hz rfl (x := .ref TI) rfl ?_)
  refine wpAny_bind (wpAny_seqItems hTI rfl ?_)
  show wpAny _ _ (Builtin.SmallTypes.ownedTupleIsFree (.ref z) >>= _) _ _ _
  refine wpAny_bind (owned_no hz ha fun g0 hz0 hs0 => ?_)
  replace hs0 : Heap.SameBut z hp g0 := hs0
  simp only [Bool.false_eq_true, if_false]
  refine wpAny_bind ?_
  rw [← Array.forIn_toList]
  simp only [List.forIn_cons, List.forIn_nil]
  refine wpAny_bind (wpAny_bind (wpAny_holding ?_))
  show wpAny _ _ (Builtin.SmallTypes.nextOf (.ref i1) >>= _) _ _ ⟨g0, ge, d, tk0, os⟩
  by_cases q1 : i < n1
  · have q2 : i = n2 := by omega
    refine wpAny_bind (D1.item i _ _ _ q1 (D1.over st1 hs0 S.zf1) fun x1 g1 tk1 p1 sn1 hs1 => wpAny_pure ?_)
    replace hs1 : Heap.SameBut i1 g0 g1 := hs1
    refine wpAny_pure ?_
    refine wpAny_bind (wpAny_bind (wpAny_holding ?_))
    show wpAny _ _ (Builtin.SmallTypes.nextOf (.ref i2) >>= _) _ _ ⟨g1, ge, d, tk1, os⟩
    refine wpAny_bind (D2.done ⟨g1, ge, d, tk1, os⟩ _ _ (by rw [← q2]; exact D2.over (D2.over st2 hs0 S.zf2) hs1 S.sep1_2) fun g2 e h2 he => ?_)
    exact hE g2 tk1 e (fun c o cz c1 c2 x => h2 _ _ c2 (hs1.extBut _ _ c1 (hs0.extBut _ _ cz x))) he
  · have q2 : i = n1 := by omega
    refine wpAny_bind (D1.done ⟨g0, ge, d, tk0, os⟩ _ _ (by rw [← q2]; exact D1.over st1 hs0 S.zf1) fun g2 e h2 he => ?_)
    exact hE g2 tk0 e (fun c o cz c1 _ x => h2 _ _ c1 (hs0.extBut _ _ cz x)) he
/-- where the zip stands before its i-th pair -/
def ZipSt (St1 St2 : Nat → Heap → Prop) (z TI TO i1 i2 sx : Addr) (i : Nat) (h : Heap) : Prop := IsTupOf2 h TI (.ref i1) (.ref i2) ∧ St1 i h ∧ St2 i h ∧ ((IsZip h z TI TO .none ∧ ∃ a1 a2, IsTupOf2 h TO a1 a2) ∨ ∃ a b oa, ZipA h z TI TO a b ∧ h.get? a = some oa ∧ a ≠ z ∧ a ≠ i1 ∧ a ≠ i2 ∧ a ≠ sx)
theorem zip_step {Q : Option Value → Shared → Prop} (S : ZipSep2 z TI TO i1 i2 fp1 fp2) (D1 : Draws prog w A.in1 i1 fp1 n1 P1 St1) (D2 : Draws prog w A.in1 i2 fp2 n2 P2 St2) (st : ZipSt St1 St2 z TI TO i1 i2 sx i s.heap) (hsx : sx < s.heap.objs.size) (l1 : i < n1) (l2 : i < n2)
    (hQ : ∀ x1 x2 g tk, P1 i x1 → P2 i x2 → ZipSt St1 St2 z TI TO i1 i2 sx (i + 1) g → IsTupOf2 g s.heap.objs.size x1 x2 → g.objs.size = s.heap.objs.size + 1 →
      (∀ c o, c ≠ z → c ≠ TO → c ≠ i1 → c ≠ i2 → s.heap.get? c = some o → g.get? c = some o) → Q (some (.ref s.heap.objs.size)) { s with heap := g, toks := tk }) :
    wpAny (model prog w) A (pyNext (.ref z)) Q E s := by
  obtain ⟨hTI, st1, st2, hz⟩ := st
  have lt : ∀ {c o}, s.heap.get? c = some o → s.heap.objs.size ≠ c := fun e => Nat.ne_of_gt (Heap.lt_size e)
  have m1 : s.heap.objs.size ≠ i1 := by obtain ⟨_, e⟩ := D1.live _ _ st1; exact lt e
  have m2 : s.heap.objs.size ≠ i2 := by obtain ⟨_, e⟩ := D2.live _ _ st2; exact lt e
  rcases hz with ⟨hz, a1, a2, hTO⟩ | ⟨a, b, oa, hz, ha, az, ai1, ai2, asx⟩
  · exact wpAny_pyNext_zipD2_item S D1 D2 hz hTI hTO st1 st2 l1 l2 fun x1 x2 g tk y1 y2 b1 b2 d1 d2 b5 b6 hk =>
      hQ x1 x2 g tk y1 y2 ⟨hk _ _ S.TIz S.TITO S.TIi1 S.TIi2 hTI, d1, d2, .inr ⟨_, _, _, b1, b5, lt hz, m1, m2, Nat.ne_of_gt hsx⟩⟩ b5 b6 hk
  · have hT : s.TypeIs (.ref z) "zip" := ⟨_, hz, rfl⟩
    unfold pyNext
    exact wpAny_bind (wpAny_attempt (wpAny_callSpecial?_slot (name := Str.ofString "__next__") hT F.slot_zip_next (wpAny_call_entry F.slot_zip_next hT F.entry_zip_next
      (zipA_item S D1 D2 hz ha hTI st1 st2 l1 l2 fun x1 x2 g tk y1 y2 b1 d1 d2 b5 b6 hk => wpAny_pure (hQ x1 x2 g tk y1 y2 ⟨hk _ _ S.TIz S.TIi1 S.TIi2 hTI, d1, d2, .inr ⟨_, _, _, b1, hk _ _ az ai1 ai2 ha, az, ai1, ai2, asx⟩⟩ b5 b6 fun c o c1 _ c3 c4 => hk c o c1 c3 c4)) (F.args_zip_next_1 _))))
theorem zip_stop {Q : Option Value → Shared → Prop} (S : ZipSep2 z TI TO i1 i2 fp1 fp2) (D1 : Draws prog w A.in1 i1 fp1 n1 P1 St1) (D2 : Draws prog w A.in1 i2 fp2 n2 P2 St2) (st : ZipSt St1 St2 z TI TO i1 i2 sx i s.heap) (l1 : i ≤ n1) (l2 : i ≤ n2) (hend : i = n1 ∨ i = n2)
    (hQ : ∀ g tk, (∀ c o, c ≠ z → c ≠ TO → c ≠ i1 → c ≠ i2 → s.heap.get? c = some o → g.get? c = some o) → Q none { s with heap := g, toks := tk }) :
    wpAny (model prog w) A (pyNext (.ref z)) Q E s := by
  obtain ⟨hTI, st1, st2, hz⟩ := st
  rcases hz with ⟨hz, a1, a2, hTO⟩ | ⟨a, b, oa, hz, ha, az, ai1, ai2, asx⟩
  · exact wpAny_pyNext_zipD2_end S D1 D2 hz hTI hTO st1 st2 l1 l2 hend hQ
  · have hT : s.TypeIs (.ref z) "zip" := ⟨_, hz, rfl⟩
    unfold pyNext
    refine wpAny_bind (wpAny_attempt (wpAny_callSpecial?_slot (name := Str.ofString "__next__") hT F.slot_zip_next (wpAny_call_entry F.slot_zip_next hT F.entry_zip_next
      (zipA_end S D1 D2 hz ha hTI st1 st2 l1 l2 hend fun g tk e hk he => ?_) (F.args_zip_next_1 _))))
    obtain ⟨o, ho, hc⟩ := he
    refine wpAny_bind (wpAny_isInstance (T := "StopIteration") (b := true) ⟨o, ho, hc⟩ isSubtype_stop ?_)
    exact wpAny_pure (hQ _ _ fun c o c1 _ c3 c4 => hk c o c1 c3 c4)
theorem ZipSt.keep {h g : Heap} (D1 : Draws prog w A i1 fp1 n1 P1 St1) (D2 : Draws prog w A i2 fp2 n2 P2 St2) (st : ZipSt St1 St2 z TI TO i1 i2 sx i h) (hk : ∀ b o, b ≠ sx → h.get? b = some o → g.get? b = some o) (f1 : sx ∉ fp1) (f2 : sx ∉ fp2) (sz : z ≠ sx) (sI : TI ≠ sx) (sO : TO ≠ sx) : ZipSt St1 St2 z TI TO i1 i2 sx i g := by
  obtain ⟨hTI, st1, st2, hz⟩ := st
  refine ⟨hk _ _ sI hTI, D1.frame _ _ _ st1 fun b hb o e => hk b o (fun q => f1 (q ▸ hb)) e, D2.frame _ _ _ st2 fun b hb o e => hk b o (fun q => f2 (q ▸ hb)) e, ?_⟩
  rcases hz with ⟨hz, a1, a2, hTO⟩ | ⟨a, b, oa, hz, ha, az, ai1, ai2, asx⟩
  · exact .inl ⟨hk _ _ sz hz, a1, a2, hk _ _ sO hTO⟩
  · exact .inr ⟨a, b, oa, hk _ _ sz hz, hk _ _ asx ha, az, ai1, ai2, asx⟩
/-- the pairs that were made, at as -/
structure PairsG (P1 P2 : Nat → Value → Prop) (lo : Addr) (h : Heap) (as : List Addr) : Prop where
  rise : as.Pairwise (· < ·)
  above : ∀ a ∈ as, lo < a
  pairs : ∀ (j : Nat) (a : Addr), as[j]? = some a → ∃ x1 x2, P1 j x1 ∧ P2 j x2 ∧ IsTupOf2 h a x1 x2
theorem PairsG.there {lo : Addr} {h : Heap} {as : List Addr} (g : PairsG P1 P2 lo h as) {a : Addr} (ha : a ∈ as) : a < h.objs.size := by
  obtain ⟨j, hj⟩ := List.mem_iff_getElem?.mp ha
  obtain ⟨_, _, _, _, e⟩ := g.pairs j a hj
  exact Heap.lt_size e
/-- the cells of the zip -/
structure ZipAp (z TI TO i1 i2 sx : Addr) (fp1 fp2 : List Addr) : Prop where
  f1 : sx ∉ fp1
  f2 : sx ∉ fp2
  sz : z < sx
  sI : TI < sx
  sO : TO < sx
  s1 : i1 < sx
  s2 : i2 < sx
theorem zip_loop {R : Result → Shared → Prop} (S : ZipSep2 z TI TO i1 i2 fp1 fp2) (D1 : Draws prog w A.in1.in1 i1 fp1 n1 P1 St1) (D2 : Draws prog w A.in1.in1 i2 fp2 n2 P2 St2) (Z : ZipAp z TI TO i1 i2 sx fp1 fp2) (hn : min n1 n2 ≤ sizeLine) (res : Value) {h0 : Heap}
    (hR : ∀ g tk acc c as, (∀ b o, b ≠ sx → b ≠ z → b ≠ TO → b ≠ i1 → b ≠ i2 → h0.get? b = some o → g.get? b = some o) → g.get? sx = some { cls := .type "list", dict := none, data := .seq acc c, slots := #[] } → as.length = min n1 n2 → PairsG P1 P2 sx g as →
      acc.toList = as.map Value.ref → R (.ok (.ret res)) { s with heap := g, toks := tk }) :
    ∀ (k i : Nat) (h : Heap) (tk c : Nat) (acc : Array Value) (as : List Addr), min n1 n2 - i = k → i ≤ min n1 n2 → ZipSt St1 St2 z TI TO i1 i2 sx i h → (∀ b o, b ≠ sx → b ≠ z → b ≠ TO → b ≠ i1 → b ≠ i2 → h0.get? b = some o → h.get? b = some o) →
      h.get? sx = some { cls := .type "list", dict := none, data := .seq acc c, slots := #[] } → acc.toList = as.map Value.ref → as.length = i → PairsG P1 P2 sx h as →
      codeAny (model prog w) A (.builtin "list.extend.loop" ⟨[.ref sx, .ref z, res], []⟩) R { s with heap := h, toks := tk } := by
  intro k
  induction k with
  | zero =>
    intro i h tk c acc as hk hi hst hkeep hS hacc hal hG
    refine codeAny_builtin PySem.F.entry_extend_loop ?_
    rw [Around.under_plainId PySem.F.plain_extend_loop _]
    show wpAny _ A.in1 (pyNext (.ref z) >>= _) _ _ _
    refine wpAny_bind (zip_stop (s := { s with heap := h, toks := tk }) (A := A.in1) S D1 D2 hst (by omega) (by omega) (by omega) fun g tk' he => ?_)
    have ke : ∀ c o, c ≠ z → c ≠ TO → c ≠ i1 → c ≠ i2 → h.get? c = some o → g.get? c = some o := he
    refine wpAny_pure (hR g tk' acc c as (fun b o q1 q2 q3 q4 q5 e => ke b o q2 q3 q4 q5 (hkeep b o q1 q2 q3 q4 q5 e)) (ke sx _ (Nat.ne_of_gt Z.sz) (Nat.ne_of_gt Z.sO) (Nat.ne_of_gt Z.s1) (Nat.ne_of_gt Z.s2) hS) (by omega) ⟨hG.rise, hG.above, fun j a hj => ?_⟩ hacc)
    obtain ⟨x1, x2, e1, e2, e3⟩ := hG.pairs j a hj
    have ab := hG.above a (List.mem_of_getElem? hj)
    exact ⟨x1, x2, e1, e2, ke a _ (Nat.ne_of_gt (Nat.lt_trans Z.sz ab)) (Nat.ne_of_gt (Nat.lt_trans Z.sO ab)) (Nat.ne_of_gt (Nat.lt_trans Z.s1 ab)) (Nat.ne_of_gt (Nat.lt_trans Z.s2 ab)) e3⟩
  | succ k ih =>
    intro i h tk c acc as hk hi hst hkeep hS hacc hal hG
    have asz : acc.size = i := by rw [← Array.length_toList, hacc, List.length_map, hal]
    refine codeAny_builtin PySem.F.entry_extend_loop ?_
    rw [Around.under_plainId PySem.F.plain_extend_loop _]
    show wpAny _ A.in1 (pyNext (.ref z) >>= _) _ _ _
    refine wpAny_bind (zip_step (s := { s with heap := h, toks := tk }) (A := A.in1) S D1 D2 hst (Heap.lt_size hS) (by omega) (by omega) fun x1 x2 g tk' p1 p2 st' ht hz hkp => ?_)
    have ke : ∀ c o, c ≠ z → c ≠ TO → c ≠ i1 → c ≠ i2 → h.get? c = some o → g.get? c = some o := hkp
    have ht : IsTupOf2 g h.objs.size x1 x2 := ht
    have hS' := ke sx _ (Nat.ne_of_gt Z.sz) (Nat.ne_of_gt Z.sO) (Nat.ne_of_gt Z.s1) (Nat.ne_of_gt Z.s2) hS
    have up : ∀ b o, b ≠ sx → g.get? b = some o → (g.update sx (Obj.mapSeq (·.push (Value.ref h.objs.size)))).get? b = some o := fun b o hb e => (Heap.get?_update_other _ _ (Ne.symm hb)).trans e
    have hSl : sx < h.objs.size := Heap.lt_size hS
    show wpAny _ A.in1 (updateSeq sx (·.push (Value.ref h.objs.size)) >>= _) _ _ _
    refine wpAny_bind ?_
    refine wpAny_updateSeq hS' rfl (wpAny_pure ⟨plainId_quiet PySem.F.plain_extend_loop _, ih (i + 1) _ tk' _ (acc.push (Value.ref h.objs.size)) (as ++ [h.objs.size]) (by omega) (by omega) (st'.keep D1 D2 up Z.f1 Z.f2 (Nat.ne_of_lt Z.sz) (Nat.ne_of_lt Z.sI) (Nat.ne_of_lt Z.sO))
      (fun b o q1 q2 q3 q4 q5 e => up b o q1 (ke b o q2 q3 q4 q5 (hkeep b o q1 q2 q3 q4 q5 e))) (Heap.get?_update_self _ hS' rfl) (by rw [Array.toList_push, hacc, List.map_append]; rfl) (by rw [List.length_append, hal]; rfl) ⟨?_, ?_, ?_⟩⟩) (by rw [asz]; omega) (by show (acc.push (Value.ref h.objs.size)).size ≤ sizeLine + 1; rw [Array.size_push, asz]; omega)
    · refine List.pairwise_append.mpr ⟨hG.rise, List.pairwise_singleton _ _, fun a ha b hb => ?_⟩
      rw [List.mem_singleton.mp hb]
      exact hG.there ha
    · intro a ha
      rcases List.mem_append.mp ha with ha | ha
      · exact hG.above a ha
      · rw [List.mem_singleton.mp ha]; exact hSl
    · intro j b hj
      rcases Nat.lt_trichotomy j as.length with q | q | q
      · rw [List.getElem?_append_left q] at hj
        obtain ⟨y1, y2, e1, e2, e3⟩ := hG.pairs j b hj
        have ab := hG.above b (List.mem_of_getElem? hj)
        exact ⟨y1, y2, e1, e2, up b _ (Nat.ne_of_gt ab) (ke b _ (Nat.ne_of_gt (Nat.lt_trans Z.sz ab)) (Nat.ne_of_gt (Nat.lt_trans Z.sO ab)) (Nat.ne_of_gt (Nat.lt_trans Z.s1 ab)) (Nat.ne_of_gt (Nat.lt_trans Z.s2 ab)) e3)⟩
      · subst q
        have hb : h.objs.size = b := by simpa using hj
        subst hb
        exact ⟨x1, x2, by rw [hal]; exact p1, by rw [hal]; exact p2, up _ _ (Nat.ne_of_gt hSl) ht⟩
      · have no : (as ++ [h.objs.size])[j]? = none := List.getElem?_eq_none (by rw [List.length_append, List.length_singleton]; omega)
        rw [no] at hj; cases hj
end
theorem zip_noLen : typeLookup (.type "zip") "__len__" = pure none := by rw [typeLookup_type, builtinLookup_eq_fast]; kernel_rfl
theorem zip_noHint : typeLookup (.type "zip") "__length_hint__" = pure none := by rw [typeLookup_type, builtinLookup_eq_fast]; kernel_rfl
section
variable {prog : Program} {w : World} {A : Around} {E : Value → Shared → Prop} {s : Shared} {z TI TO i1 i2 sx : Addr} {fp1 fp2 : List Addr} {n1 n2 : Nat} {P1 P2 : Nat → Value → Prop} {St1 St2 : Nat → Heap → Prop}
theorem zip_hint {Q : Bool → Shared → Prop} (hT : s.TypeIs (.ref z) "zip") (h : Q true s) : wpAny (model prog w) A (Builtin.List.listLengthHint (.ref z)) Q E s := by
  unfold Builtin.List.listLengthHint
  refine wpAny_bind (wpAny_specialOf hT zip_noLen ?_)
  show wpAny _ _ (specialOf (.ref z) "__length_hint__" >>= _) _ _ s
  refine wpAny_bind (wpAny_specialOf hT zip_noHint ?_)
  exact wpAny_pure h
theorem zip_extend {R : Result → Shared → Prop} (S : ZipSep2 z TI TO i1 i2 fp1 fp2) (D1 : Draws prog w A.in1.in1 i1 fp1 n1 P1 St1) (D2 : Draws prog w A.in1.in1 i2 fp2 n2 P2 St2) (Z : ZipAp z TI TO i1 i2 sx fp1 fp2) (hn : min n1 n2 ≤ sizeLine) (res : Value) (c0 : Nat)
    (hz : IsZip s.heap z TI TO .none) (st : ZipSt St1 St2 z TI TO i1 i2 sx 0 s.heap) (hS : s.heap.get? sx = some { cls := .type "list", data := .seq #[] c0 })
    (hR : ∀ g tk acc c as, (∀ b o, b ≠ sx → b ≠ z → b ≠ TO → b ≠ i1 → b ≠ i2 → s.heap.get? b = some o → g.get? b = some o) → g.get? sx = some { cls := .type "list", dict := none, data := .seq acc c, slots := #[] } → as.length = min n1 n2 → PairsG P1 P2 sx g as →
      acc.toList = as.map Value.ref → R (.ok (.ret res)) { s with heap := g, toks := tk }) :
    wpAny (model prog w) A.in1 (Builtin.List.listExtendWith (.ref sx) (.ref z) res)
      (fun fin s' => match fin with | .done f => R (.ok f) s' | .again c' => c'.quiet = true ∧ codeAny (model prog w) A c' R s') (fun e s' => R (.error e) s') s := by
  have hT : s.TypeIs (.ref z) "zip" := ⟨_, hz, rfl⟩
  have key : ∀ (h : Heap) (c1 tk : Nat), (∀ b o, b ≠ sx → s.heap.get? b = some o → h.get? b = some o) → h.get? sx = some { cls := .type "list", data := .seq #[] c1 } →
      codeAny (model prog w) A (.builtin "list.extend.loop" ⟨[.ref sx, .ref z, res], []⟩) R { s with heap := h, toks := tk } := by
    intro h c1 tk hk hS1
    refine zip_loop (h0 := s.heap) S D1 D2 Z hn res hR (min n1 n2) 0 h tk c1 #[] [] (Nat.sub_zero _) (Nat.zero_le _) (st.keep D1 D2 hk Z.f1 Z.f2 (Nat.ne_of_lt Z.sz) (Nat.ne_of_lt Z.sI) (Nat.ne_of_lt Z.sO)) (fun b o q1 _ _ _ _ e => hk b o q1 e) hS1 rfl rfl
      ⟨List.Pairwise.nil, (fun _ ha => nomatch ha), (fun j a hj => by simp at hj)⟩
  unfold Builtin.List.listExtendWith
  refine wpAny_bind (wpAny_typeOf (T := "zip") hT ?_)
  have k1 : Builtin.List.listSameRef (.ref sx) (.ref z) = false := by simp [Builtin.List.listSameRef, Nat.ne_of_gt Z.sz]
  have k2 : (Value.type "zip" == Value.type "list") = false := by decide
  have k3 : (Value.type "zip" == Value.type "tuple") = false := by decide
  simp only [k1, k2, k3, Bool.or_false, Bool.false_eq_true, if_false]
  refine wpAny_bind (wpAny_pyIter_zip hz ?_)
  refine wpAny_bind (wpAny_holding (zip_hint hT ?_))
  refine wpAny_ite_split (fun _ => ?_) (fun _ => wpAny_pure ⟨plainId_quiet PySem.F.plain_extend_loop _, key _ c0 _ (fun b o _ e => e) hS⟩)
  refine wpAny_bind (wpAny_rule ?_)
  refine wpAny_bind ?_
  show wpAny _ _ (updateSeq sx (·.push .none) >>= fun _ => updateSeq sx (·.pop)) _ _ _
  refine wpAny_bind (wpAny_updateSeq hS rfl ?_)
  have hS2 := Heap.get?_update_self (Obj.mapSeq (·.push Value.none)) hS rfl
  refine wpAny_updateSeq (hz := by seq_fits) hS2 rfl ?_
  have hS3 := Heap.get?_update_self (Obj.mapSeq (·.pop)) hS2 rfl
  refine wpAny_pure ⟨plainId_quiet PySem.F.plain_extend_loop _, key _ _ _ (fun b o hb e => ?_) hS3⟩
  exact (Heap.get?_update_other _ _ (Ne.symm hb)).trans ((Heap.get?_update_other _ _ (Ne.symm hb)).trans e)
theorem zip_init {R : Result → Shared → Prop} (S : ZipSep2 z TI TO i1 i2 fp1 fp2) (D1 : Draws prog w A.in1.in1 i1 fp1 n1 P1 St1) (D2 : Draws prog w A.in1.in1 i2 fp2 n2 P2 St2) (Z : ZipAp z TI TO i1 i2 sx fp1 fp2) (hn : min n1 n2 ≤ sizeLine)
    (hz : IsZip s.heap z TI TO .none) (st : ZipSt St1 St2 z TI TO i1 i2 sx 0 s.heap) (hS : s.heap.get? sx = some { cls := .type "list", data := .seq #[] })
    (hR : ∀ g tk acc c as, (∀ b o, b ≠ sx → b ≠ z → b ≠ TO → b ≠ i1 → b ≠ i2 → s.heap.get? b = some o → g.get? b = some o) → g.get? sx = some { cls := .type "list", dict := none, data := .seq acc c, slots := #[] } → as.length = min n1 n2 → PairsG P1 P2 sx g as →
      acc.toList = as.map Value.ref → R (.ok (.ret .none)) { s with heap := g, toks := tk }) :
    wpAny (model prog w) A.in1 (Builtin.«list.__init__» ⟨[.ref sx, .ref z], []⟩)
      (fun fin s' => match fin with | .done f => R (.ok f) s' | .again c' => c'.quiet = true ∧ codeAny (model prog w) A c' R s') (fun e s' => R (.error e) s') s := by
  show wpAny _ _ (do let old ← Builtin.List.listItems (.ref sx); Builtin.List.listUpdate (.ref sx) (fun _ => #[]); letGo old.toList.reverse; Builtin.List.listExtendWith (.ref sx) (.ref z) .none) _ _ s
  refine wpAny_bind ?_
  unfold Builtin.List.listItems
  refine wpAny_bind (wpAny_seqItems hS rfl (wpAny_pure ?_))
  show wpAny _ _ (updateSeq sx (fun _ => #[]) >>= fun _ => letGo (#[] : Array Value).toList.reverse >>= fun _ => Builtin.List.listExtendWith (.ref sx) (.ref z) .none) _ _ s
  refine wpAny_bind (wpAny_updateSeq hS rfl ?_)
  have hS2 := Heap.get?_update_self (Obj.mapSeq (fun _ => (#[] : Array Value))) hS rfl
  have oth : ∀ b o, b ≠ sx → s.heap.get? b = some o → (s.heap.update sx (Obj.mapSeq (fun _ => (#[] : Array Value)))).get? b = some o := fun b o hb e => (Heap.get?_update_other _ _ (Ne.symm hb)).trans e
  refine wpAny_bind (wpAny_letGo ?_)
  refine zip_extend S D1 D2 Z hn .none _ (oth _ _ (Nat.ne_of_lt Z.sz) hz) (st.keep D1 D2 oth Z.f1 Z.f2 (Nat.ne_of_lt Z.sz) (Nat.ne_of_lt Z.sI) (Nat.ne_of_lt Z.sO)) hS2 fun g tk acc c as hk h1 h2 h3 h4 => ?_
  exact hR g tk acc c as (fun b o q1 q2 q3 q4 q5 e => hk b o q1 q2 q3 q4 q5 (oth b o q1 e)) h1 h2 h3 h4
/-- list(zip) -/
theorem zip_list {Q : Value → Shared → Prop} (S : ZipSep2 z TI TO i1 i2 fp1 fp2) (D1 : Draws prog w A.in1.in1.in1 i1 fp1 n1 P1 St1) (D2 : Draws prog w A.in1.in1.in1 i2 fp2 n2 P2 St2) (hn : min n1 n2 ≤ sizeLine)
    (low : ∀ b, b ∈ fp1 ∨ b ∈ fp2 ∨ b = z ∨ b = TI ∨ b = TO → b < s.heap.objs.size) (hz : IsZip s.heap z TI TO .none) (hTI : IsTupOf2 s.heap TI (.ref i1) (.ref i2)) (hTO : ∃ a1 a2, IsTupOf2 s.heap TO a1 a2) (st1 : St1 0 s.heap) (st2 : St2 0 s.heap)
    (hQ : ∀ g tk acc c as, (∀ b o, b ≠ z → b ≠ TO → b ≠ i1 → b ≠ i2 → s.heap.get? b = some o → g.get? b = some o) → g.get? s.heap.objs.size = some { cls := .type "list", dict := none, data := .seq acc c, slots := #[] } → as.length = min n1 n2 → PairsG P1 P2 s.heap.objs.size g as →
      acc.toList = as.map Value.ref → Q (.ref s.heap.objs.size) { s with heap := g, toks := tk }) :
    wpAny (model prog w) A (PySem.call (.type "list") [.ref z]) Q E s := by
  refine callType_codes (Q₁ := fun b s1 => b = .ref s.heap.objs.size ∧ s1 = { s with heap := s.heap.push { cls := .type "list", data := .seq #[] } }) PySem.F.called_list (PySem.F.typeCall_list_1 _) PySem.F.entry_list_init (code_list_new _ ⟨rfl, rfl⟩) fun b s1 h1 => ?_
  obtain ⟨rfl, rfl⟩ := h1
  have hS : (s.heap.push { cls := .type "list", data := .seq #[] }).get? s.heap.objs.size = some { cls := .type "list", data := .seq #[] } := Heap.get?_push_size _ rfl
  have up : ∀ b o, s.heap.get? b = some o → (s.heap.push { cls := .type "list", data := .seq #[] }).get? b = some o := fun b o e => Heap.get?_push_of_some _ e
  have ap : ZipAp z TI TO i1 i2 s.heap.objs.size fp1 fp2 := ⟨fun q => Nat.lt_irrefl _ (low _ (.inl q)), fun q => Nat.lt_irrefl _ (low _ (.inr (.inl q))), low _ (.inr (.inr (.inl rfl))), low _ (.inr (.inr (.inr (.inl rfl)))), low _ (.inr (.inr (.inr (.inr rfl)))), low _ (.inl S.mem1), low _ (.inr (.inl S.mem2))⟩
  obtain ⟨a1, a2, hTO⟩ := hTO
  have st : ZipSt St1 St2 z TI TO i1 i2 s.heap.objs.size 0 (s.heap.push { cls := .type "list", data := .seq #[] }) := ⟨up _ _ hTI, D1.frame _ _ _ st1 fun b _ o e => up b o e, D2.frame _ _ _ st2 fun b _ o e => up b o e, .inl ⟨up _ _ hz, a1, a2, up _ _ hTO⟩⟩
  refine ⟨⟨_, hS, rfl⟩, PySem.F.args_list_init_2 _ _, zip_init (A := A.in1) S D1 D2 ap hn (up _ _ hz) st hS fun g tk acc c as hk h1 h2 h3 h4 => ?_⟩
  exact ⟨rfl, hQ g tk acc c as (fun b o q2 q3 q4 q5 e => hk b o (Nat.ne_of_lt (Heap.lt_size e)) q2 q3 q4 q5 (up b o e)) h1 h2 h3 h4⟩
end
end Cy

set_option Elab.async false
set_option linter.all false
set_option maxRecDepth 100000
/-! Cy: list(zip(xs, ys)), its rule. -/
namespace Cy
open L2 PySem PySem.Spec PyProof.Rows

/-- the pairs tracked at their addresses -/
def putZ : Hp → List Addr → List V → List V → Hp
  | H, a :: as, x :: xs, y :: ys => putZ (upd H a (.tup [x, y])) as xs ys
  | H, _, _, _ => H
theorem putZ_off {b : Addr} : ∀ {as : List Addr} {xs ys : List V} {H : Hp}, b ∉ as → putZ H as xs ys b = H b
  | [], _, _, _, _ => rfl
  | _ :: _, [], _, _, _ => rfl
  | _ :: _, _ :: _, [], _, _ => rfl
  | a :: as, x :: xs, y :: ys, H, h => by
    show putZ (upd H a (.tup [x, y])) as xs ys b = H b
    rw [putZ_off fun z => h (List.mem_cons_of_mem _ z), upd_ne fun z => h (by rw [z]; exact List.mem_cons_self)]
theorem putZ_at : ∀ {as : List Addr} {xs ys : List V} {H : Hp} {j : Nat} {a : Addr} {x y : V}, as.Nodup → as[j]? = some a → xs[j]? = some x → ys[j]? = some y → putZ H as xs ys a = some (.tup [x, y])
  | [], _, _, _, _, _, _, _, _, h, _, _ => by simp at h
  | _ :: _, [], _, _, _, _, _, _, _, _, h, _ => by simp at h
  | _ :: _, _ :: _, [], _, _, _, _, _, _, _, _, h => by simp at h
  | a :: as, x :: xs, y :: ys, H, 0, b, x', y', nd, h1, h2, h3 => by
    cases h1; cases h2; cases h3
    show putZ (upd H a (.tup [x, y])) as xs ys a = _
    rw [putZ_off (List.nodup_cons.mp nd).1, upd_same]
  | a :: as, x :: xs, y :: ys, H, j + 1, b, x', y', nd, h1, h2, h3 => putZ_at (as := as) (xs := xs) (ys := ys) (List.nodup_cons.mp nd).2 h1 h2 h3
section
variable {F : Fg} {W : Wd} {s : S} {σ : St} {H : Hp}
theorem putZ_rel : ∀ {as : List Addr} {vs us : List V} {l m : List D} {H : Hp}, Rel F W s σ H → DenL F W H vs l → DenL F W H us m → as.Nodup → (∀ a ∈ as, H a = none) → as.length = min vs.length us.length → pairOk (zipped l m) = true →
    Rel F W s σ (putZ H as vs us) ∧ Ext W s σ H W s σ (putZ H as vs us) ∧ DenL F W (putZ H as vs us) (as.map V.ref) (zipped l m)
  | as, [], us, _, m, H, r, .nil, dm, nd, fr, hl, _ => by
    have : as = [] := List.eq_nil_of_length_eq_zero (by simpa using hl)
    subst this
    exact ⟨r, Ext.refl, .nil⟩
  | as, _ :: _, [], _, _, H, r, dl, .nil, nd, fr, hl, _ => by
    have : as = [] := List.eq_nil_of_length_eq_zero (by simpa using hl)
    subst this
    cases dl with
    | cons d dl => exact ⟨r, Ext.refl, .nil⟩
  | [], _ :: _, _ :: _, _, _, H, r, _, _, nd, fr, hl, _ => by simp at hl
  | a :: as, v :: vs, u :: us, _, _, H, r, .cons (d := d) (ds := ds) dv dl, .cons (d := e) (ds := es) du dm, nd, fr, hl, z => by
    simp only [zipped, pairOk, List.all_cons, Bool.and_eq_true] at z
    have hn : H a = none := fr a List.mem_cons_self
    have nd2 := List.nodup_cons.mp nd
    have st := r.stab_new (o := .tup [v, u]) hn
    obtain ⟨r2, e2, d2⟩ := putZ_rel (as := as) (r.new (o := .tup [v, u]) hn) (dl.stab st) (dm.stab st) nd2.2 (fun b hb => (upd_ne fun z => nd2.1 (by rw [← z]; exact hb)).trans (fr b (List.mem_cons_of_mem _ hb))) (by simp only [List.length_cons] at hl; omega) z.2
    refine ⟨r2, (Ext.new hn).trans e2, .cons ?_ d2⟩
    have rn := r.new (o := .tup [v, u]) hn
    have at_ : putZ (upd H a (.tup [v, u])) as vs us a = some (.tup [v, u]) := by rw [putZ_off nd2.1, upd_same]
    exact .tup (.inr ⟨by simpa using z.1, at_⟩) (.cons (dv.stab (st.trans (e2.stab rn))) (.cons (du.stab (st.trans (e2.stab rn))) .nil))
end
theorem vals_refs : ∀ as : List Addr, Vals (as.map V.ref) (as.map Value.ref)
  | [] => .nil
  | _ :: as => .cons rfl (vals_refs as)
/-- what the pairs are, all tracked -/
theorem pairs_laid {X : Cx} {pins : List (Addr × Obj)} {σ : L2.St} {H : Hp} {s : Shared} {g : Heap} {tk p c : Nat} {its1 its2 acc : Array Value} {vs us : List V} {as : List Addr} {P1 P2 : Nat → Value → Prop} (I : Inv X pins σ H s) (rv : Vals vs its1.toList) (ru : Vals us its2.toList) (hz : min vs.length us.length ≤ sizeLine)
    (h1 : ∀ i x, P1 i x → its1[i]? = some x) (h2 : ∀ i x, P2 i x → its2[i]? = some x) (hp : s.heap.objs.size ≤ p)
    (hk : ∀ b o, s.heap.get? b = some o → g.get? b = some o) (hS : g.get? p = some { cls := .type "list", dict := none, data := .seq acc c, slots := #[] }) (hl : as.length = min vs.length us.length) (hG : PairsG P1 P2 p g as) (hacc : acc.toList = as.map Value.ref) :
    (p :: as).Nodup ∧ (∀ b ∈ p :: as, H b = none) ∧ Inv X pins σ (putZ (upd H p (.lst (as.map V.ref))) as vs us) { s with heap := g, toks := tk } := by
  have pn : p ∉ as := fun z => Nat.lt_irrefl _ (hG.above _ z)
  have nd : as.Nodup := List.Pairwise.imp (fun {a b} (h : a < b) => Nat.ne_of_lt h) hG.rise
  have fr : ∀ b ∈ p :: as, s.heap.objs.size ≤ b := fun b hb => by
    rcases List.mem_cons.mp hb with e | e
    · rw [e]; exact hp
    · exact Nat.le_of_lt (Nat.lt_of_le_of_lt hp (hG.above b e))
  have new : ∀ b ∈ p :: as, H b = none := fun b hb => I.hok.fresh (fr b hb)
  have off : ∀ b, b ∉ p :: as → putZ (upd H p (.lst (as.map V.ref))) as vs us b = H b := fun b hb => by
    rw [putZ_off fun z => hb (List.mem_cons_of_mem _ z), upd_ne fun z => hb (by rw [z]; exact List.mem_cons_self)]
  have kp : ∀ b u, H b = some u → putZ (upd H p (.lst (as.map V.ref))) as vs us b = some u := fun b u e => by
    rw [off b fun z => by rw [new b z] at e; cases e]; exact e
  have eS : putZ (upd H p (.lst (as.map V.ref))) as vs us p = some (.lst (as.map V.ref)) := by rw [putZ_off pn, upd_same]
  have low : ∀ b o, s.heap.get? b = some o → b ∉ p :: as := fun b o e z => absurd (Heap.lt_size e) (Nat.not_lt.mpr (fr b z))
  refine ⟨List.nodup_cons.mpr ⟨pn, nd⟩, new, ?_⟩
  refine I.call' (ch := []) rfl ⟨fun b o q _ _ _ => hk b o q, fun b o q _ _ _ => ⟨o.slots, hk b o q⟩, fun b o q n _ => ?_, fun b o q _ => ⟨o, hk b o q⟩, fun b xs q => kp b _ q, fun b o u q => kp b _ q, fun b ps q => ⟨#[], by rw [kp b _ q]; simp⟩⟩ (fun b u q => ?_) I.bare fun b z => by simp at z
  · rw [off b (low b o q)]; exact n
  · by_cases hb : b ∈ as
    · obtain ⟨j, hj⟩ := List.mem_iff_getElem?.mp hb
      obtain ⟨x1, x2, q1, q2, q3⟩ := hG.pairs j b hj
      have jl : j < as.length := (List.getElem?_eq_some_iff.mp hj).1
      have jv : j < vs.length := by omega
      have ju : j < us.length := by omega
      have e1 : vs[j]? = some vs[j] := List.getElem?_eq_getElem jv
      have e2 : us[j]? = some us[j] := List.getElem?_eq_getElem ju
      rw [putZ_at nd hj e1 e2] at q
      cases q
      obtain ⟨w1, g1, r1⟩ := rv.get e1
      obtain ⟨w2, g2, r2⟩ := ru.get e2
      have k1 := h1 j x1 q1
      have k2 := h2 j x2 q2
      rw [← Array.getElem?_toList, g1] at k1
      rw [← Array.getElem?_toList, g2] at k2
      cases k1; cases k2
      exact ⟨by show 2 ≤ sizeLine; decide, [x1, x2], .cons r1 (.cons r2 .nil), ⟨_, q3, rfl, _, rfl⟩⟩
    · by_cases hb2 : b = p
      · rw [hb2] at q ⊢
        rw [eS] at q
        cases q
        refine ⟨by rw [List.length_map]; omega, acc.toList, c, by rw [hacc]; exact vals_refs as, ?_⟩
        rw [Array.toArray_toList]
        exact hS
      · rw [off b fun z => (List.mem_cons.mp z).elim hb2 hb] at q
        exact (I.hok b u q).stay (fun d v _ y => hk d v y) (fun d y => kp d _ y) fun d xs y => kp d _ y
/-- list(zip(xs, ys)) -/
def rLzip (F : Fg) : List V → Hp → VK → Prop := fun xs H Q => ∃ (a b : Addr) (vs us : List V), xs = [.ref a, .ref b] ∧ ((SqL F H a vs ∧ SqL F H b us) ∨ (SqT F H a vs ∧ SqT F H b us)) ∧
  ∀ (as : List Addr) (p : Addr), as.length = min vs.length us.length → (p :: as).Nodup → (∀ c ∈ p :: as, H c = none) → Q (.ref p) (putZ (upd H p (.lst (as.map V.ref))) as vs us)
theorem ltN {a b : Addr} (h : a < b) : @LT.lt Nat instLTNat a b := h
theorem neA {a b : Nat} (h : a ≠ b) : @Ne Addr a b := h
theorem nin2 {a b c : Nat} (h1 : a ≠ b) (h2 : a ≠ c) : a ∉ [b, c] := by simp [h1, h2]
theorem in2 (a b : Nat) : a ∈ [a, b] := List.mem_cons_self
theorem sep_new (n l1 l2 : Nat) (h1 : l1 < n) (h2 : l2 < n) : ZipSep2 (n + 4) (n + 2) (n + 3) n (n + 1) [n, l1] [n + 1, l2] where
  TIz := neA (by omega)
  TOz := neA (by omega)
  TITO := neA (by omega)
  TIi1 := neA (by omega)
  mem1 := in2 _ _
  zf1 := nin2 (by omega) (by omega)
  Tf1 := nin2 (by omega) (by omega)
  TIi2 := neA (by omega)
  mem2 := in2 _ _
  zf2 := nin2 (by omega) (by omega)
  Tf2 := nin2 (by omega) (by omega)
  sep1_2 := nin2 (by omega) (by omega)
  sep2_1 := nin2 (by omega) (by omega)
section
variable {X : Cx} {a b : Expr} {p p2 q pos : Pos} {Wx : WX} {g : G} {oa ob : Op}
/-- the pairs of two things that are walked alike -/
theorem lz_call {P : Program} {w : World} {A : Around} {E : Value → Shared → Prop} {s : Shared} {l1 l2 : Addr} {o1 o2 : Obj} {B1 B2 : Heap → Prop} {its1 its2 : Array Value} {T1 T2 : Addr → Nat → Heap → Prop} {Q : Value → Shared → Prop} (hh : A.handled = none) (q1 : l1 < s.heap.objs.size) (q2 : l2 < s.heap.objs.size)
    (b1 : Begins (.ref l1) o1 B1) (b2 : Begins (.ref l2) o2 B2) (h1 : B1 s.heap) (h2 : B2 s.heap)
    (D1 : ∀ (A' : Around) (it : Addr), A'.handled = none → l1 ≠ it → Draws P w A' it [it, l1] its1.size (fun i v => its1[i]? = some v) (T1 it)) (D2 : ∀ (A' : Around) (it : Addr), A'.handled = none → l2 ≠ it → Draws P w A' it [it, l2] its2.size (fun i v => its2[i]? = some v) (T2 it))
    (t1 : ∀ (h : Heap) (it : Addr), h.get? it = some o1 → B1 h → T1 it 0 h) (t2 : ∀ (h : Heap) (it : Addr), h.get? it = some o2 → B2 h → T2 it 0 h) (hn : min its1.size its2.size ≤ sizeLine)
    (h : ∀ g tk acc c as, (∀ b o, s.heap.get? b = some o → g.get? b = some o) → g.get? (s.heap.objs.size + 5) = some { cls := .type "list", dict := none, data := .seq acc c, slots := #[] } → as.length = min its1.size its2.size →
      PairsG (fun i v => its1[i]? = some v) (fun i v => its2[i]? = some v) (s.heap.objs.size + 5) g as → acc.toList = as.map Value.ref → Q (.ref (s.heap.objs.size + 5)) { s with heap := g, toks := tk }) :
    wpAny (model P w) A (PySem.call (.type "zip") [.ref l1, .ref l2]) (fun v s1 => wpAny (model P w) A (PySem.call (.type "list") [v]) Q E s1) E s := by
  refine zip_begins2 b1 b2 h1 h2 fun g hz hTI hTO g1 g2 hs hk => ?_
  have n1 : l1 ≠ s.heap.objs.size := Nat.ne_of_lt q1
  have n2 : l2 ≠ s.heap.objs.size + 1 := Nat.ne_of_lt (Nat.lt_succ_of_lt q2)
  have hh3 : A.in1.in1.in1.handled = none := by simp [hh]
  refine zip_list (s := { s with heap := g }) (sep_new s.heap.objs.size l1 l2 q1 q2) (D1 _ _ hh3 n1) (D2 _ _ hh3 n2) hn (fun c hc => ?_) hz hTI ⟨_, _, hTO⟩ (t1 g _ g1 (b1.keeps _ _ h1 hk)) (t2 g _ g2 (b2.keeps _ _ h2 hk)) fun g' tk acc c as k1 k2 k3 k4 k5 => ?_
  · show c < g.objs.size
    rw [hs]
    have z1 := ltN q1
    have z2 := ltN q2
    have low : ∀ {x y : Nat}, x < y → @LT.lt Addr _ x y := fun h => h
    have e' : c = s.heap.objs.size ∨ c = l1 ∨ c = s.heap.objs.size + 1 ∨ c = l2 ∨ c = s.heap.objs.size + 4 ∨ c = s.heap.objs.size + 2 ∨ c = s.heap.objs.size + 3 := by
      rcases hc with z | z | z | z | z
      · rcases List.mem_cons.mp z with z | z
        · exact .inl z
        · exact .inr (.inl (List.mem_singleton.mp z))
      · rcases List.mem_cons.mp z with z | z
        · exact .inr (.inr (.inl z))
        · exact .inr (.inr (.inr (.inl (List.mem_singleton.mp z))))
      · exact .inr (.inr (.inr (.inr (.inl z))))
      · exact .inr (.inr (.inr (.inr (.inr (.inl z)))))
      · exact .inr (.inr (.inr (.inr (.inr (.inr z)))))
    rcases e' with z | z | z | z | z | z | z <;> rw [z] <;> exact low (by omega)
  · have k2 : g'.get? g.objs.size = _ := k2
    have k4 : PairsG _ _ g.objs.size g' as := k4
    show Q (.ref g.objs.size) _
    rw [hs] at k2 k4 ⊢
    refine h g' tk acc c as (fun b o e => ?_) k2 k3 k4 k5
    have lt := ltN (Heap.lt_size e)
    exact k1 b o (neA (by omega)) (neA (by omega)) (neA (by omega)) (neA (by omega)) (hk b o e)
theorem pe_lzip {ta : TA} (hc : X.calm = true) (hg : Gl X "list") (hm : X.mg "list" = none) (hg2 : Gl X "zip") (hm2 : X.mg "zip" = none) (ha : PA X [a, b] ta) (sa : isStar a = false) (sb : isStar b = false) :
    PE X (.Call (.Name "list" p) [.Call (.Name "zip" p2) [a, b] [] q] [] pos) (tCB (rLzip X.K) ta) := by
  refine ⟨fun pins s σ H Q I h => ?_⟩
  refine Call_ (ld_blt I hg hm (u := .type "list") rfl ?_)
  refine PyProof.Rows.callWith_type1 (PyProof.Rows.args_cons ?_ rfl) rfl rfl
  refine Call_ (ld_blt I hg2 hm2 (u := .type "zip") rfl ?_)
  refine PyProof.Rows.callWith_type1 (thn (ha.run q pins s σ H _ I h) fun ws s1 ⟨xs, H1, I1, r1, q1⟩ => ?_) (starEach_of sa) (by rw [starEach_of sb]; rfl)
  obtain ⟨l1, l2, vs, us, rfl, hq, q1⟩ := q1
  obtain ⟨w1, w2, rfl, e1, e2⟩ := vals2 r1
  cases e1
  cases e2
  have hh : X.A.handled = none := I1.ok.hd hc
  have fin : ∀ {its1 its2 : Array Value}, Vals vs its1.toList → Vals us its2.toList → min vs.length us.length ≤ sizeLine → ∀ (g : Heap) (tk : Nat) (acc : Array Value) (c : Nat) (as : List Addr), (∀ b o, s1.heap.get? b = some o → g.get? b = some o) →
      g.get? (s1.heap.objs.size + 5) = some { cls := .type "list", dict := none, data := .seq acc c, slots := #[] } → as.length = min its1.size its2.size → PairsG (fun i v => its1[i]? = some v) (fun i v => its2[i]? = some v) (s1.heap.objs.size + 5) g as → acc.toList = as.map Value.ref →
      EP X pins σ Q (.ref (s1.heap.objs.size + 5)) { s1 with heap := g, toks := tk } := fun {its1 its2} rv ru hz g tk acc c as k1 k2 k3 k4 k5 => by
    have z1 : its1.size = vs.length := by rw [← Array.length_toList]; exact rv.length.symm
    have z2 : its2.size = us.length := by rw [← Array.length_toList]; exact ru.length.symm
    rw [z1, z2] at k3
    obtain ⟨j1, j2, J⟩ := pairs_laid (tk := tk) I1 rv ru hz (fun i x h => h) (fun i x h => h) (Nat.le_add_right _ 5) k1 k2 k3 k4 k5
    exact ⟨.ref _, _, J, rfl, q1 as _ k3 j1 j2⟩
  rcases hq with ⟨h1, h2⟩ | ⟨h1, h2⟩
  · obtain ⟨its1, rv, p1, m1⟩ := I1.list h1
    obtain ⟨its2, ru, p2, m2⟩ := I1.list h2
    have hz : min vs.length us.length ≤ sizeLine := by rw [rv.length]; omega
    refine wpAny_mono (lz_call (its1 := its1.toArray) (its2 := its2.toArray) hh p1.lt p2.lt (begins_list l1 its1.toArray) (begins_list l2 its2.toArray) p1.isList p2.isList (fun A' it h ne => Draws.list h it l1 ne _) (fun A' it h ne => Draws.list h it l2 ne _) (fun h it e1 e2 => ⟨⟨_, e1, rfl, rfl⟩, e2⟩) (fun h it e1 e2 => ⟨⟨_, e1, rfl, rfl⟩, e2⟩)
      (by rw [List.size_toArray, List.size_toArray, ← rv.length, ← ru.length]; exact hz) (fin (its1 := its1.toArray) (its2 := its2.toArray) rv ru hz)) (fun v s2 hv => ?_) fun e s2 he => he
    exact PyProof.Rows.args_nil hv
  · obtain ⟨its1, rv, p1, m1⟩ := I1.tuple h1
    obtain ⟨its2, ru, p2, m2⟩ := I1.tuple h2
    have hz : min vs.length us.length ≤ sizeLine := by rw [rv.length]; omega
    refine wpAny_mono (lz_call (its1 := its1.toArray) (its2 := its2.toArray) hh p1.lt p2.lt (begins_tuple l1 its1.toArray) (begins_tuple l2 its2.toArray) p1 p2 (fun A' it h ne => Draws.tuple h it l1 ne _) (fun A' it h ne => Draws.tuple h it l2 ne _) (fun h it e1 e2 => ⟨⟨_, e1, rfl, rfl⟩, e2⟩) (fun h it e1 e2 => ⟨⟨_, e1, rfl, rfl⟩, e2⟩)
      (by rw [List.size_toArray, List.size_toArray, ← rv.length, ← ru.length]; exact hz) (fin (its1 := its1.toArray) (its2 := its2.toArray) rv ru hz)) (fun v s2 hv => ?_) fun e s2 he => he
    exact PyProof.Rows.args_nil hv
end
/-! ### further rules that make a thing -/
/-- an operation that makes a new thing, and others with it -/
def FrC1 (F : Fg) (f : List Ob → D → Option D) (r : V → Hp → VK → Prop) : Prop := ∀ (W : Wd) (s : S) (σ : St) (H : Hp) (v : V) (d z : D) (Q : VK), Rel F W s σ H → DenC F W H v d → f s.h d = some z →
  (∀ W' H' a, H a = none → Ext W s σ H W' s σ H' → Rel F W' s σ H' → Acc F W' s σ H' a z → Q (.ref a) H') → r v H Q
def FrC2 (F : Fg) (f : List Ob → D → D → Option D) (r : R2) : Prop := ∀ (W : Wd) (s : S) (σ : St) (H : Hp) (v u : V) (d e z : D) (Q : VK), Rel F W s σ H → DenC F W H v d → DenC F W H u e → f s.h d e = some z →
  (∀ W' H' a, H a = none → Ext W s σ H W' s σ H' → Rel F W' s σ H' → Acc F W' s σ H' a z → Q (.ref a) H') → r v u H Q
section
variable {Wx : WX} {g : G}
theorem frc_one {F : Fg} {f : List Ob → D → Option D} {a : Op} {r : V → Hp → VK → Prop} (pr : FrC1 F f r) {σ : St} {H : Hp} {Q : VK} (h : tfr F Wx g (o1 f a) σ H Q) : tUn r (top F Wx g a) σ H Q := by
  obtain ⟨W, s, rl, p⟩ := h
  refine opf_bind rl p fun x s1 W1 H1 v e1 r1 o1 p1 => ?_
  cases q : a.rd x s1 with
  | none => rw [q] at p1; exact p1.elim
  | some d =>
    rw [q] at p1
    cases q2 : f s1.h d with
    | none => simp only [q2] at p1; exact p1.elim
    | some z =>
      simp only [q2] at p1
      exact pr W1 s1 σ H1 v d z Q r1 (o1.den r1 q) q2 p1
theorem frc_two {F : Fg} {f : List Ob → D → D → Option D} {a b : Op} {r : R2} (pr : FrC2 F f r) {σ : St} {H : Hp} {Q : VK} (h : tfr F Wx g (o2 f a b) σ H Q) : tOp r (top F Wx g a) (top F Wx g b) σ H Q := by
  obtain ⟨W, s, rl, p⟩ := h
  refine opf_bind rl p fun x s1 W1 H1 v e1 r1 o1 p1 => ?_
  refine opf_bind r1 p1 fun y s2 W2 H2 u e2 r2 o2 p2 => ?_
  cases q : a.rd x s2 with
  | none => rw [q] at p2; exact p2.elim
  | some d =>
    cases q1 : b.rd y s2 with
    | none => rw [q, q1] at p2; exact p2.elim
    | some e =>
      rw [q, q1] at p2
      cases q2 : f s2.h d e with
      | none => simp only [q2] at p2; exact p2.elim
      | some z =>
        simp only [q2] at p2
        exact pr W2 s2 σ H2 v u d e z Q r2 ((o1.ext r1 e2).den r2 q) (o2.den r2 q1) q2 p2
end
theorem frc_lzip {F : Fg} : FrC2 F (fun _ => dLzip) (fun v u H Q => rLzip F [v, u] H Q) := by
  intro W s σ H v u d e z Q r dv du hf k
  have key : ∀ {a b : Addr} {vs us : List V} {l m : List D}, v = .ref a → u = .ref b → ((SqL F H a vs ∧ SqL F H b us) ∨ (SqT F H a vs ∧ SqT F H b us)) → DenL F W H vs l → DenL F W H us m → z = .lst (zipped l m) → pairOk (zipped l m) = true → rLzip F [v, u] H Q := by
    intro a b vs us l m e1 e2 hq dl dm ez po
    subst e1 e2 ez
    refine ⟨a, b, vs, us, rfl, hq, fun as p hl nd fr => ?_⟩
    have hn := fr p List.mem_cons_self
    have nd2 := List.nodup_cons.mp nd
    have st := r.stab_new (o := .lst (as.map V.ref)) hn
    obtain ⟨r2, e2, d2⟩ := putZ_rel (r.new (o := .lst (as.map V.ref)) hn) (dl.stab st) (dm.stab st) nd2.2 (fun c hc => (upd_ne fun z => nd2.1 (by rw [← z]; exact hc)).trans (fr c (List.mem_cons_of_mem _ hc))) hl po
    have ob : OwnOb F W (putZ (upd H p (.lst (as.map V.ref))) as vs us) p (.lst (zipped l m)) := ⟨as.map V.ref, by rw [putZ_off nd2.1, upd_same], d2⟩
    have a1 : ¬ OwnAt s σ p := r.fresh_nown hn
    exact k W _ p hn ((Ext.new hn).trans e2) r2 ⟨ob, r.fresh_nfrz hn, r.fresh_nref hn, a1⟩
  cases d with
  | lst l =>
    cases e with
    | lst m =>
      have po : pairOk (zipped l m) = true := by
        cases q : pairOk (zipped l m) with
        | true => rfl
        | false => simp [dLzip, q] at hf
      simp only [dLzip, po, if_true, Option.some.injEq] at hf
      subst hf
      obtain ⟨a, vs, e1, h1, d1⟩ := dv.lst
      obtain ⟨b, us, e2, h2, d2⟩ := du.lst
      exact key e1 e2 (.inl ⟨SqL.of h1, SqL.of h2⟩) d1 d2 rfl po
    | _ => cases hf
  | tup l =>
    cases e with
    | tup m =>
      have po : pairOk (zipped l m) = true := by
        cases q : pairOk (zipped l m) with
        | true => rfl
        | false => simp [dLzip, q] at hf
      simp only [dLzip, po, if_true, Option.some.injEq] at hf
      subst hf
      obtain ⟨a, vs, e1, h1, d1⟩ := dv.tup
      obtain ⟨b, us, e2, h2, d2⟩ := du.tup
      exact key e1 e2 (.inr ⟨h1.sq, h2.sq⟩) d1 d2 rfl po
    | _ => cases hf
  | _ => cases hf
theorem sf_lzip {X : Cx} {Wx : WX} {g : G} {a b : Expr} {p p2 q pos : Pos} {oa ob : Op} (hc : X.calm = true) (hg : Gl X "list") (hm : X.mg "list" = none) (hg2 : Gl X "zip") (hm2 : X.mg "zip" = none) (ha : PE X a (top X.K Wx g oa)) (hb : PE X b (top X.K Wx g ob)) (sa : isStar a = false) (sb : isStar b = false) :
    PE X (.Call (.Name "list" p) [.Call (.Name "zip" p2) [a, b] [] q] [] pos) (tfr X.K Wx g (o2 (fun _ => dLzip) oa ob)) := (pe_lzip hc hg hm hg2 hm2 (pa_row2 ha hb sa sb) sa sb).mono fun _ _ _ h => frc_two (r := fun v u H Q => rLzip X.K [v, u] H Q) frc_lzip h
end Cy

set_option Elab.async false
set_option linter.all false
set_option maxRecDepth 100000
/-! Cy: from the text to Cy's code. -/
namespace Cy
open L2 PySem PySem.Spec PyProof.Rows

/-! ### operations by name -/
inductive O1 where
  | len | int | abs | sum | max | min | all | any | tup | repr | neg | isN | notN | isTy (t : Tn) | lst | sset | sort | dicC | revL | revA (b : Bool)
def O1.f : O1 → List Ob → D → Option D
  | .len => dLen
  | .int => fun _ => dInt
  | .abs => fun _ => dAbs
  | .sum => fun _ => dSum
  | .max => fun _ => dMax
  | .min => fun _ => dMin
  | .all => fun _ => dAll
  | .any => fun _ => dAny
  | .tup => fun _ => dTup
  | .repr => fun _ => dRepr
  | .neg => fun _ => dNeg
  | .isN => fun _ => dIsN
  | .notN => fun _ => dNotN
  | .isTy t => Cy.isTy t
  | .lst => fun _ => dLst
  | .sset => fun _ => dSset
  | .sort => dSortH
  | .dicC => dDicC
  | .revL => fun _ => dRevL
  | .revA b => fun _ => dRevA b
inductive O2 where
  | add | sub | mul | fdiv | mod | pow | eq | ne | lt | le | gt | ge | isin | notin | ix | max2 | min2 | addL | mulL | lzip
def O2.f : O2 → List Ob → D → D → Option D
  | .add => fun _ => dAdd
  | .sub => fun _ => dSub
  | .mul => fun _ => dMul
  | .fdiv => fun _ => dFdiv
  | .mod => fun _ => dMod
  | .pow => fun _ => dPow
  | .eq => fun _ => dEq
  | .ne => fun _ => dNe
  | .lt => fun _ => dLt
  | .le => fun _ => dLe
  | .gt => fun _ => dGt
  | .ge => fun _ => dGe
  | .isin => dIn
  | .notin => dNotIn
  | .ix => dIx
  | .max2 => fun _ => dMax2
  | .min2 => fun _ => dMin2
  | .addL => fun _ => dAddL
  | .mulL => fun _ => dMulL
  | .lzip => fun _ => dLzip
/-- comparisons of two things alone -/
inductive OV where
  | eq | ne | lt | le | gt | ge
def OV.f : OV → D → D → Option D
  | .eq => dEq
  | .ne => dNe
  | .lt => dLt
  | .le => dLe
  | .gt => dGt
  | .ge => dGe
inductive OI where
  | rng1 | rng2 | rngD | enum | zip
def OI.f : OI → List D → Option (List D)
  | .rng1 => fRng1
  | .rng2 => fRng2
  | .rngD => fRngD
  | .enum => fEnumL
  | .zip => fZip

/-- a reading of Cy's code -/
structure Alg where
  E : Type
  T : Type
  A : Type
  I : Type
  G : Type
  B : Type
  O : Type
  P : Type
  bad : E
  badT : T
  badA : A
  badI : I
  var : Nat → E
  cst : D → E
  o1 : O1 → O → E
  o2 : O2 → O → O → E
  get : O → O → E → E
  sdef : Nat → E → E → E
  cnt : Bool → O → E → E
  cut : O → Option E → Option E → E
  and : E → E → E
  or : E → E → E
  not : E → E
  ite : T → E → E → E
  chain : OV → OV → E → E → E → E
  tup : A → E
  lst : A → E
  comp : I → G → T → E → List Nat → E
  comp2 : I → G → T → I → G → T → E → List Nat → List Nat → E
  compD : I → G → T → E → E → List Nat → E
  call : Nm → Nat → A → A → List (Sum Nat D) → E
  pop : Nat → E
  popAt : Nat → E → E
  app : Nat → E → E
  ext : Nat → E → E
  newK : E
  newT : E
  dic : P → E
  ref : E → E
  pk : Nat → O
  ex : E → O
  tE : E → T
  tNot : T → T
  tAnd : T → T → T
  tOr : T → T → T
  tYes : T
  aNil : A
  aCons : E → A → A
  aStar : E → A → A
  pNil : P
  pCons : E → E → P → P
  iVal : E → I
  iArgs : OI → A → I
  gName : Nat → G
  gTup : List G → G
  pass : B
  brk : B
  cont : B
  never : B
  seq : B → B → B
  ret : E → B
  asg : G → E → B
  take : Nat → E → B
  par : List Nat → List (Bool × E) → B
  exprS : E → B
  ifS : T → B → B → B
  forS : I → G → B → B
  whileS : T → B → B
  putS : Nat → E → E → B
  aug : Bool → Nat → E → B
/-- Cy's code itself -/
def sh : Alg where
  E := Ex
  T := Tx
  A := Ax
  I := Ix
  G := Tg
  B := Bl
  O := Op
  P := List (Ex × Ex)
  bad := badE
  badT := badT
  badA := badA
  badI := badI
  var := Cy.var
  cst := Cy.cst
  o1 := fun o a => Cy.o1 o.f a
  o2 := fun o a b => Cy.o2 o.f a b
  get := getE
  sdef := sdefE
  cnt := cntE
  cut := cutE
  and := eAnd
  or := eOr
  not := eNot
  ite := eIf
  chain := fun o o' a b c => eChain o.f o'.f a b c
  tup := tupE
  lst := lstE
  comp := Cy.comp
  comp2 := Cy.comp2
  compD := Cy.compD
  call := callK
  pop := popE
  popAt := popAtE
  app := appE
  ext := extE
  newK := Cy.newK
  newT := Cy.newT
  dic := dicE
  ref := refE
  pk := Op.pk
  ex := Op.ex
  tE := Cy.tE
  tNot := Cy.tNot
  tAnd := Cy.tAnd
  tOr := Cy.tOr
  tYes := Cy.tYes
  aNil := Cy.aNil
  aCons := Cy.aCons
  aStar := Cy.aStar
  pNil := []
  pCons := fun a b r => (a, b) :: r
  iVal := Cy.iVal
  iArgs := fun o a => Cy.iArgs o.f a
  gName := Cy.gName
  gTup := Cy.gTup
  pass := Cy.pass
  brk := Cy.brk
  cont := Cy.cont
  never := Cy.never
  seq := Cy.seq
  ret := Cy.ret
  asg := Cy.asg
  take := Cy.take
  par := Cy.parS
  exprS := Cy.exprS
  ifS := Cy.ifS
  forS := Cy.forS
  whileS := Cy.whileS
  putS := Cy.putS
  aug := fun b => augI (if b then fun i j => i + j else fun i j => i - j)

/-! ### where code stands -/
structure Ctx where
  N : List Nm
  sc : Scope
  fn : Str → Bool
  sig : Nm → Option (List Nm × List D)
  con : Nm → Option D
  free : Nm → Bool
  own : List Nm
  shr : List Nm
  tks : List Nm
  rsh : Bool := false
def nmOf (x : Str) : Nm := x.cps.toList
def idx : List Nm → Nm → Nat → Option Nat
  | [], _, _ => none
  | y :: r, x, i => if y = x then some i else idx r x (i + 1)
def isDbg (x : Str) : Bool := x == ("__debug__" : Str) || x == ("__classdict__" : Str) || x == ("__name__" : Str)
def visB (sc : Scope) (x : Str) : Bool := match sc.names.lookup x with
  | some .local => true
  | some .cell => true
  | some .free => true
  | _ => false
def glB (sc : Scope) (x : Str) : Bool := match sc.names.lookup x with
  | some .globalImplicit => true
  | _ => false
/-- a name that is read -/
def loc? (ctx : Ctx) (x : Str) : Option Nat := if visB ctx.sc x && !isDbg x then idx ctx.N (nmOf x) 0 else none
/-- a name that is stored -/
def sto? (ctx : Ctx) (x : Str) : Option Nat := match ctx.sc.names.lookup x with
  | some .local => idx ctx.N (nmOf x) 0
  | some .cell => if ctx.fn x then idx ctx.N (nmOf x) 0 else none
  | _ => none
def gl? (ctx : Ctx) (x : Str) : Bool := glB ctx.sc x && !isDbg x
/-- a built-in name that nothing hides -/
def bi? (ctx : Ctx) (x : Str) : Bool := gl? ctx x && ctx.free (nmOf x)
/-- within a comprehension's block -/
def Ctx.blk (ctx : Ctx) (scope : Scope) : Ctx := { ctx with sc := relS scope ctx.sc, fn := fun x => scope.names.lookup x == some .cell }
def isLC : NameKind → Bool
  | .local => true
  | .cell => true
  | _ => false
def ownOf (N : List Nm) (scope : Scope) : List (Str × Nat) := scope.names.filterMap fun y => if isLC y.2 then (idx N (nmOf y.1) 0).map fun i => (y.1, i) else none
def blkB (ctx : Ctx) (scope : Scope) : Bool :=
  (match scope.kind with | .function => true | _ => false) && scope.names.all (fun y => scope.names.lookup y.1 == some y.2) &&
  scope.names.all (fun y => match y.2 with | .free => (match ctx.sc.names.lookup y.1 with | some .cell => true | some .free => true | _ => false) | _ => true)
def b1 (x : Str) : Option O1 :=
  if x = "len" then some .len else if x = "int" then some .int else if x = "abs" then some .abs else if x = "sum" then some .sum else if x = "max" then some .max else if x = "min" then some .min
  else if x = "all" then some .all else if x = "any" then some .any else if x = "tuple" then some .tup else if x = "repr" then some .repr else none
def b2 (x : Str) : Option O2 := if x = "max" then some .max2 else if x = "min" then some .min2 else none
def tn? (x : Str) : Option Tn :=
  if x = "int" then some .int else if x = "bool" then some .bool else if x = "str" then some .str else if x = "tuple" then some .tup else if x = "list" then some .lst else if x = "dict" then some .dic else none
def bop : Operator → Option O2
  | .Add => some .add
  | .Sub => some .sub
  | .Mult => some .mul
  | .FloorDiv => some .fdiv
  | .Mod => some .mod
  | .Pow => some .pow
  | _ => none
def bopL : Operator → Option O2
  | .Add => some .addL
  | .Mult => some .mulL
  | _ => none
def cop : CmpOp → Option O2
  | .Eq => some .eq
  | .NotEq => some .ne
  | .Lt => some .lt
  | .LtE => some .le
  | .Gt => some .gt
  | .GtE => some .ge
  | .In => some .isin
  | .NotIn => some .notin
  | _ => none
def vop : CmpOp → Option OV
  | .Eq => some .eq
  | .NotEq => some .ne
  | .Lt => some .lt
  | .LtE => some .le
  | .Gt => some .gt
  | .GtE => some .ge
  | _ => none
def isIs : CmpOp → Bool
  | .Is => true
  | _ => false
def isNot : CmpOp → Bool
  | .IsNot => true
  | _ => false
def isNone : Expr → Bool
  | .Constant .none _ _ => true
  | _ => false
/-- a value used up by a name on its line -/
def swB (sc : Scope) (y : Str) (py : Pos) : Expr → Bool
  | .ListComp _ _ s p => sc.kind == .function && sc.names.lookup y == some .local && py.line == p.line && !(s.names.any fun (n, k) => n == y && (k == .local || k == .cell))
  | .DictComp _ _ _ s p => sc.kind == .function && sc.names.lookup y == some .local && py.line == p.line && !(s.names.any fun (n, k) => n == y && (k == .local || k == .cell))
  | _ => false
def lineOf (ts : List Expr) : Nat := (ts.head?.map (·.pos.line)).getD 0
def nmAt (lk : Str → Option NameKind) (line : Nat) : Expr → Option Str
  | .Name id pos => if (lk id == some .local && pos.line == line) = true then some id else none
  | _ => none
def lkS (sc : Scope) (x : Str) : Option NameKind := sc.names.lookup x
/-- the order of the stores of (a, b) = (x, y) -/
def swp (sc : Scope) (ts vs : List Expr) : Option (Option (List Str)) :=
  if (!(ts.length == 2 || ts.length == 3) || vs.length != ts.length || sc.kind != .function) = true then some none
  else if vs.any isStar = true then some none
  else if ((ts.filterMap (nmAt (lkS sc) (lineOf ts))).length != ts.length || (ts.filterMap (nmAt (lkS sc) (lineOf ts))).eraseDups.length != (ts.filterMap (nmAt (lkS sc) (lineOf ts))).length) = true then some none
  else if vs.all (foldedForSure 8) = true then some none
  else if vs.all (constantsAlone 8) = true then none
  else some (some (ts.filterMap (nmAt (lkS sc) (lineOf ts))))

/-! ### the steps -/
structure Rc (α : Alg) where
  e : Ctx → Expr → α.E
  f : Ctx → Expr → α.E
  t : Ctx → Expr → α.T
  a : Ctx → List Expr → α.A
  k : Ctx → List Keyword → α.A
  i : Ctx → Expr → Expr → α.I
  g : Ctx → Expr → Option (α.G × List Nat)
  s : Ctx → Stmt → α.B
  b : Ctx → List Stmt → α.B
section
variable {α : Alg} (r : Rc α)
def cO (ctx : Ctx) (e : Expr) : α.O := match e with
  | .Name x _ => (match loc? ctx x with
    | some i => α.pk i
    | none => α.ex (r.e ctx e))
  | _ => α.ex (r.e ctx e)
def cName (ctx : Ctx) (x : Str) : α.E := match loc? ctx x with
  | some i => α.var i
  | none => if gl? ctx x then (match ctx.con (nmOf x) with
    | some d => α.cst d
    | none => α.bad) else α.bad
def cConst (α : Alg) : Const → α.E
  | .none => α.cst .non
  | .bool b => α.cst (.bl b)
  | .int i => α.cst (.int i)
  | .str x => α.cst (.str (nmOf x))
  | _ => α.bad
def cBool (ctx : Ctx) (op : BoolOp) : List Expr → α.E
  | [] => α.bad
  | [a] => r.e ctx a
  | a :: b :: rest => (match op with
    | .And => α.and (r.e ctx a) (cBool ctx op (b :: rest))
    | .Or => α.or (r.e ctx a) (cBool ctx op (b :: rest)))
def cCmp (ctx : Ctx) (a : Expr) (ops : List CmpOp) (cs : List Expr) : α.E := match ops, cs with
  | [op], [b] => if isNone b && isIs op then α.o1 .isN (cO r ctx a) else if isNone b && isNot op then α.o1 .notN (cO r ctx a) else (match cop op with
      | some o => if behindInMarks op b then α.bad else α.o2 o (cO r ctx a) (cO r ctx b)
      | none => α.bad)
  | [op, op'], [b, c] => (match vop op, vop op' with
    | some o, some o' => if lastMarks [op, op'] [b, c] then α.bad else α.chain o o' (r.e ctx a) (r.e ctx b) (r.e ctx c)
    | _, _ => α.bad)
  | _, _ => α.bad
/-- -1, written -/
def isM1 : Expr → Bool
  | .UnaryOp .USub (.Constant (.int 1) _ _) _ => true
  | _ => false
def isNo {β : Type} : Option β → Bool
  | none => true
  | _ => false
def is0 : Option Expr → Bool
  | some (.Constant (.int 0) _ _) => true
  | _ => false
def cSub (ctx : Ctx) (a k whole : Expr) : α.E := match k with
  | .Slice lo hi st _ => (match st with
    | none => α.cut (cO r ctx a) (lo.map (r.e ctx)) (hi.map (r.e ctx))
    | some st => if isNo lo && isM1 st then (if isNo hi then α.o1 (.revA false) (cO r ctx a) else if is0 hi then α.o1 (.revA true) (cO r ctx a) else α.bad) else α.bad)
  | k => α.o2 .ix (cO r ctx a) (cO r ctx k)
def cSubF (ctx : Ctx) (a k : Expr) : α.E := match k with
  | .Slice lo hi (some st) _ => if isNo lo && isNo hi && isM1 st then α.o1 .revL (cO r ctx a) else α.bad
  | _ => α.bad
/-- sorted(set(b)) -/
def cSrt (ctx : Ctx) (a : Expr) : α.E := if isStar a then α.bad else α.o1 .sort (cO r ctx a)
def cSorted (ctx : Ctx) (a : Expr) : α.E := match a with
  | .Call (.Name y _) [b] [] _ => if y = "set" then (if bi? ctx y && !isStar b then α.o1 .sset (cO r ctx b) else α.bad) else cSrt r ctx a
  | _ => cSrt r ctx a
def cArgs (ctx : Ctx) (args : List Expr) : α.A := match args with
  | [] => α.aNil
  | a :: as => r.a ctx (a :: as)
/-- f(..), f a def -/
def cUser (ctx : Ctx) (x : Str) (ps : List Nm) (dfl : List D) (args : List Expr) (kws : List Keyword) : α.E :=
  if args.all (fun e => !isStar e) then (match kws.mapM (·.arg) with
    | some ks => (match bindS (ps.map st) args.length ks dfl.length with
      | some p => α.call (nmOf x) args.length (cArgs r ctx args) (r.k ctx kws) (p.map (arrS dfl))
      | none => α.bad)
    | none => α.bad) else α.bad
/-- f(..), f built in; whole: the call -/
def cBuilt (ctx : Ctx) (x : Str) (args : List Expr) (whole : Expr) : α.E := match args with
  | [a] => if isStar a then α.bad else (match b1 x with
    | some o => α.o1 o (cO r ctx a)
    | none => if x = "list" then r.f ctx whole else if x = "sorted" then cSorted r ctx a else α.bad)
  | [a, b] => if isStar a || isStar b then α.bad else (match b2 x with
    | some o => α.o2 o (cO r ctx a) (cO r ctx b)
    | none => if x = "isinstance" then (match b with
      | .Name y _ => (match tn? y with
        | some t => if bi? ctx y then α.o1 (.isTy t) (cO r ctx a) else α.bad
        | none => α.bad)
      | _ => α.bad) else α.bad)
  | _ => α.bad
/-- things that can be asked at once -/
def isRecv : Expr → Bool
  | .Name .. => true
  | .Subscript .. => true
  | .Dict .. => true
  | .ListComp .. => true
  | _ => false
def cGet (ctx : Ctx) (o : Expr) (m : Str) (apos : Pos) (args : List Expr) (pos : Pos) : α.E := match args with
  | [a, b] => if m = "get" then (if (apos.endLine == pos.line) && isRecv o && !isStar a && !isStar b then α.get (cO r ctx o) (cO r ctx a) (r.e ctx b) else α.bad) else α.bad
  | [a] => if (apos.endLine == pos.line) && isRecv o && !isStar a then (if m = "count" then α.cnt false (cO r ctx o) (r.e ctx a) else if m = "index" then α.cnt true (cO r ctx o) (r.e ctx a) else α.bad) else α.bad
  | _ => α.bad
def cMeth (ctx : Ctx) (o : Expr) (m : Str) (apos : Pos) (args : List Expr) (pos : Pos) : α.E := match o with
  | .Name y _ => (match loc? ctx y with
    | some i => if apos.endLine == pos.line then (match args with
      | [] => if m = "pop" then α.pop i else α.bad
      | [a] => if isStar a then α.bad else if m = "append" then α.app i (r.e ctx a) else if m = "extend" then α.ext i (r.e ctx a) else if m = "pop" then α.popAt i (r.e ctx a) else cGet r ctx o m apos args pos
      | [a, b] => if m = "setdefault" then (if isStar a || isStar b then α.bad else α.sdef i (r.e ctx a) (r.e ctx b)) else cGet r ctx o m apos args pos
      | _ => α.bad) else α.bad
    | none => α.bad)
  | _ => cGet r ctx o m apos args pos
def cCall (ctx : Ctx) (f : Expr) (args : List Expr) (kws : List Keyword) (pos : Pos) (whole : Expr) : α.E := match f with
  | .Name x _ => if gl? ctx x then (match ctx.sig (nmOf x) with
    | some (ps, dfl) => cUser r ctx x ps dfl args kws
    | none => if ctx.free (nmOf x) && kws.isEmpty then cBuilt r ctx x args whole else α.bad) else α.bad
  | .Attribute o m apos => if kws.isEmpty then cMeth r ctx o m apos args pos else α.bad
  | _ => α.bad
def stepE (ctx : Ctx) (e : Expr) : α.E := match e with
  | .Name x _ => cName ctx x
  | .Constant c _ _ => cConst α c
  | .BinOp a op b _ => (match bop op with
    | some o => α.o2 o (cO r ctx a) (cO r ctx b)
    | none => α.bad)
  | .UnaryOp op a _ => (match op with
    | .USub => α.o1 .neg (cO r ctx a)
    | .Not => α.not (r.e ctx a)
    | _ => α.bad)
  | .BoolOp op vs _ => cBool r ctx op vs
  | .Compare a ops cs _ => cCmp r ctx a ops cs
  | .IfExp t a b _ => α.ite (r.t ctx t) (r.e ctx a) (r.e ctx b)
  | .Subscript a k _ => cSub r ctx a k e
  | .Tuple es _ _ => α.tup (r.a ctx es)
  | .Call f args kws pos => cCall r ctx f args kws pos e
  | .List _ _ => r.f ctx e
  | .ListComp _ _ _ _ => r.f ctx e
  | .DictComp _ _ _ _ _ => r.f ctx e
  | .Dict _ _ _ => r.f ctx e
  | _ => α.bad
def cIfs (ctx : Ctx) : List Expr → Option α.T
  | [] => some α.tYes
  | [c] => some (r.t ctx c)
  | _ => none
/-- a comprehension's one clause -/
def subB (js : List Nat) (own : List (Str × Nat)) : Bool := js.all fun j => (own.map (·.2)).contains j
def cLC (ctx : Ctx) (elt : Expr) (gens : List Comprehension) (scope : Scope) : α.E :=
  let c' := ctx.blk scope
  let own := ownOf ctx.N scope
  if blkB ctx scope then (match gens with
    | [⟨tg, iter, ifs, a⟩] => if (a == 0) && !isSet iter then (match r.g c' tg, cIfs r c' ifs with
      | some (g, js), some t => if subB js own then α.comp (r.i ctx tg iter) g t (r.e c' elt) (own.map (·.2)) else α.bad
      | _, _ => α.bad) else α.bad
    | [⟨tg, iter, ifs, a⟩, ⟨tg1, iter1, ifs1, a1⟩] => if (a == 0) && (a1 == 0) && !isSet iter && !isSet iter1 then (match r.g c' tg, cIfs r c' ifs, r.g c' tg1, cIfs r c' ifs1 with
      | some (g, js), some t, some (g1, ks), some t1 => if subB js own && subB ks own then α.comp2 (r.i ctx tg iter) g t (r.i c' tg1 iter1) g1 t1 (r.e c' elt) (own.map (·.2)) ks else α.bad
      | _, _, _, _ => α.bad) else α.bad
    | _ => α.bad) else α.bad
def cDC (ctx : Ctx) (k v : Expr) (gens : List Comprehension) (scope : Scope) : α.E :=
  let c' := ctx.blk scope
  let own := ownOf ctx.N scope
  if blkB ctx scope then (match gens with
    | [⟨tg, iter, ifs, a⟩] => if (a == 0) && !isSet iter then (match r.g c' tg, cIfs r c' ifs with
      | some (g, js), some t => if subB js own then α.compD (r.i ctx tg iter) g t (r.e c' k) (r.e c' v) (own.map (·.2)) else α.bad
      | _, _ => α.bad) else α.bad
    | _ => α.bad) else α.bad
def cPairs (ctx : Ctx) : List (Option Expr) → List Expr → Option α.P
  | [], [] => some α.pNil
  | some k :: ks, v :: vs => (cPairs ctx ks vs).map fun p => α.pCons (r.e ctx k) (r.e ctx v) p
  | _, _ => none
def cDict (ctx : Ctx) (keys : List (Option Expr)) (values : List Expr) : α.E :=
  if keys.isEmpty && values.isEmpty then α.newK else if keys.length ≤ 15 then (match cPairs r ctx keys values with
    | some p => α.dic p
    | none => α.bad) else α.bad
/-- zip(b, c) -/
def zip2? : Expr → Option (Str × Expr × Expr)
  | .Call (.Name y _) [b, c] [] _ => if y = "zip" then some (y, b, c) else none
  | _ => none
def cList1 (ctx : Ctx) (f : Expr) (args : List Expr) (kws : List Keyword) : α.E := match f, args, kws with
  | .Name x _, [a], [] => if x = "list" then (if bi? ctx x && !isStar a && (ctx.sig (nmOf x)).isNone then (match zip2? a with
      | some (y, b, c) => if bi? ctx y && !isStar b && !isStar c then α.o2 .lzip (cO r ctx b) (cO r ctx c) else α.bad
      | none => α.o1 .lst (cO r ctx a)) else α.bad)
    else if x = "dict" then (if bi? ctx x && !isStar a && (ctx.sig (nmOf x)).isNone then α.o1 .dicC (cO r ctx a) else α.bad) else α.bad
  | _, _, _ => α.bad
def stepF (ctx : Ctx) (e : Expr) : α.E := match e with
  | .List es _ => α.lst (r.a ctx es)
  | .ListComp elt gens scope _ => cLC r ctx elt gens scope
  | .DictComp k v gens scope _ => cDC r ctx k v gens scope
  | .Dict keys values _ => cDict r ctx keys values
  | .BinOp a op b _ => (match bopL op with
    | some o => α.o2 o (cO r ctx a) (cO r ctx b)
    | none => α.bad)
  | .Call f args kws _ => cList1 r ctx f args kws
  | .Subscript a k _ => cSubF r ctx a k
  | _ => α.bad
def cBoolT (ctx : Ctx) (op : BoolOp) : List Expr → α.T
  | [] => α.badT
  | [a] => r.t ctx a
  | a :: b :: rest => (match op with
    | .And => α.tAnd (r.t ctx a) (cBoolT ctx op (b :: rest))
    | .Or => α.tOr (r.t ctx a) (cBoolT ctx op (b :: rest)))
def stepT (ctx : Ctx) (e : Expr) : α.T := match e with
  | .BoolOp op vs _ => cBoolT r ctx op vs
  | .UnaryOp op a _ => (match op with
    | .Not => α.tNot (r.t ctx a)
    | _ => α.badT)
  | .Compare a ops cs _ => α.tE (cCmp r ctx a ops cs)
  | .IfExp _ _ _ _ => α.badT
  | e => α.tE (r.e ctx e)
def stepA (ctx : Ctx) : List Expr → α.A
  | [] => α.aNil
  | e :: es => (match e with
    | .Starred a _ => α.aStar (r.e ctx a) (r.a ctx es)
    | e => α.aCons (r.e ctx e) (r.a ctx es))
def stepK (ctx : Ctx) : List Keyword → α.A
  | [] => α.aNil
  | ⟨_, e, _⟩ :: ks => α.aCons (r.e ctx e) (r.k ctx ks)
def isTup : Expr → Bool
  | .Tuple .. => true
  | _ => false
def oi? (x : Str) (n : Nat) (tup : Bool) : Option OI :=
  if x = "range" then (if n = 1 then some .rng1 else if n = 2 then some .rng2 else if n = 3 then some .rngD else none)
  else if x = "enumerate" then (if n = 1 && tup then some .enum else none)
  else if x = "zip" then (if n = 2 && tup then some .zip else none) else none
def stepI (ctx : Ctx) (tg e : Expr) : α.I := match e with
  | .Call f args kws _ => (match f with
    | .Name x _ => (match oi? x args.length (isTup tg) with
      | some o => if bi? ctx x && kws.isEmpty && args.all (fun e => !isStar e) then α.iArgs o (r.a ctx args) else α.badI
      | none => α.iVal (r.e ctx e))
    | _ => α.iVal (r.e ctx e))
  | e => α.iVal (r.e ctx e)
def stepG (ctx : Ctx) (e : Expr) : Option (α.G × List Nat) := match e with
  | .Name x _ => (sto? ctx x).map fun i => (α.gName i, [i])
  | .Tuple es _ _ => if es.all (fun e => !isStar e) then (es.mapM (r.g ctx)).map fun l => (α.gTup (l.map (·.1)), (l.map (·.2)).flatten) else none
  | _ => none
def isSetC : Expr → Bool
  | .SetComp .. => true
  | _ => false
def isD0 : Expr → Bool
  | .Dict ks vs _ => ks.isEmpty && vs.isEmpty
  | _ => false
/-- name = e -/
def cSet (ctx : Ctx) (y : Str) (i : Nat) (e : Expr) : α.B :=
  let c := if isD0 e && ctx.tks.contains (nmOf y) then α.newT else r.f ctx e
  if isSetC e then α.never else if ctx.own.contains (nmOf y) then α.take i c else if ctx.shr.contains (nmOf y) then α.asg (α.gName i) (α.ref c) else if isComp e then α.asg (α.gName i) (r.f ctx e) else α.asg (α.gName i) (r.e ctx e)
/-- what a name gets in a row: what was just made (true), or a value -/
def ownN (ctx : Ctx) (x : Str) : Bool := ctx.own.contains (nmOf x)
def cFr (ctx : Ctx) (x : Str) (a : Expr) : α.E := if ownN ctx x then (if isD0 a && ctx.tks.contains (nmOf x) then α.newT else r.f ctx a) else if ctx.shr.contains (nmOf x) then α.ref (r.f ctx a) else r.e ctx a
/-- (a, b) = e -/
def cTup (ctx : Ctx) (ts : List Expr) (tg e : Expr) : α.B := match r.g ctx tg with
  | none => α.never
  | some (g, _) => (match e with
    | .Tuple vs _ _ => (match swp ctx.sc ts vs with
      | none => α.never
      | some none => α.asg g (r.e ctx e)
      | some (some _) => (match ts, vs with
        | [.Name x _, .Name y _], [a, b] => (match sto? ctx x, sto? ctx y with
          | some i, some j => if ctx.sc.names.lookup x == some .local && ctx.sc.names.lookup y == some .local && i != j then α.par [i, j] [(ownN ctx x, cFr r ctx x a), (ownN ctx y, cFr r ctx y b)] else α.never
          | _, _ => α.never)
        | [.Name x _, .Name y _, .Name z _], [a, b, c] => (match sto? ctx x, sto? ctx y, sto? ctx z with
          | some i, some j, some l => if ctx.sc.names.lookup x == some .local && ctx.sc.names.lookup y == some .local && ctx.sc.names.lookup z == some .local && i != j && i != l && j != l then α.par [i, j, l] [(ownN ctx x, cFr r ctx x a), (ownN ctx y, cFr r ctx y b), (ownN ctx z, cFr r ctx z c)] else α.never
          | _, _, _ => α.never)
        | _, _ => α.never))
    | e => α.asg g (r.e ctx e))
def cAssign (ctx : Ctx) (ts : List Expr) (e : Expr) : α.B := match ts with
  | [.Name y _] => (match sto? ctx y with
    | some i => cSet r ctx y i e
    | none => α.never)
  | [.Tuple us k p] => cTup r ctx us (.Tuple us k p) e
  | [.Subscript (.Name y _) k _] => (match loc? ctx y with
    | some i => if isComp e || isSl k then α.never else α.putS i (r.e ctx k) (r.e ctx e)
    | none => α.never)
  | _ => α.never
def isDoc : Expr → Bool
  | .Constant (.str _) _ _ => true
  | _ => false
/-- x += e -/
def cAug (ctx : Ctx) (tg : Expr) (op : Operator) (e : Expr) : α.B := match tg with
  | .Name x _ => (match sto? ctx x with
    | some i => (match op with
      | .Add => α.aug true i (r.e ctx e)
      | .Sub => α.aug false i (r.e ctx e)
      | _ => α.never)
    | none => α.never)
  | _ => α.never
def stepS (ctx : Ctx) (st : Stmt) : α.B := match st with
  | .Return v _ => (match v with
    | some e => if ctx.rsh then α.ret (α.ref (r.f ctx e)) else α.ret (r.e ctx e)
    | none => α.ret (α.cst .non))
  | .Assign ts e _ => cAssign r ctx ts e
  | .For tg it body orelse _ => (match orelse with
    | [] => (match r.g ctx tg with
      | some (g, _) => if isSet it then α.never else α.forS (r.i ctx tg it) g (r.b ctx body)
      | none => α.never)
    | _ => α.never)
  | .AugAssign tg op e _ => cAug r ctx tg op e
  | .While t body orelse _ => (match orelse with
    | [] => α.whileS (r.t ctx t) (r.b ctx body)
    | _ => α.never)
  | .If t a b _ => α.ifS (r.t ctx t) (r.b ctx a) (r.b ctx b)
  | .Expr e _ => if isDoc e then α.pass else if isComp e then α.never else α.exprS (r.e ctx e)
  | .Pass _ => α.pass
  | .Break _ => α.brk
  | .Continue _ => α.cont
  | _ => α.never
def isWhl : Stmt → Bool
  | .While .. => true
  | _ => false
def stepB (ctx : Ctx) : List Stmt → α.B
  | [] => α.pass
  | [s] => if isWhl s then α.seq (r.s ctx s) α.pass else r.s ctx s
  | s :: ss => α.seq (r.s ctx s) (r.b ctx ss)
def stepR : Rc α := ⟨stepE r, stepF r, stepT r, stepA r, stepK r, stepI r, stepG r, stepS r, stepB r⟩
end
def rc0 (α : Alg) : Rc α := ⟨fun _ _ => α.bad, fun _ _ => α.bad, fun _ _ => α.badT, fun _ _ => α.badA, fun _ _ => α.badA, fun _ _ _ => α.badI, fun _ _ => none, fun _ _ => α.never, fun _ _ => α.never⟩
def rcN (α : Alg) : Nat → Rc α
  | 0 => rc0 α
  | n + 1 => stepR (rcN α n)
end Cy

set_option Elab.async false
set_option linter.all false
set_option maxRecDepth 100000
/-! Cy: the code that is made of the text does what the text does. -/
namespace Cy
open L2 PySem PySem.Spec PyProof.Rows

/-- what is known where code stands -/
structure FX (ctx : Ctx) (X : Cx) (g : G) (n : Nat) : Prop where
  N : X.N = ctx.N.map st
  sc : X.env.scope = ctx.sc
  fn : ∀ x, X.fn x = ctx.fn x
  kd : ctx.sc.kind = .function
  sig : ∀ x ps dfl, ctx.sig x = some (ps, dfl) → Callee X g n (st x) (ps.map st) dfl
  con : ∀ x d, ctx.con x = some d → ∃ v u, X.mg (st x) = some u ∧ RelV v u ∧ ∀ W H, Den X.K W H v d
  free : ∀ x, ctx.free x = true → X.mg (st x) = none
  room : Room n X.A
theorem st_nm (x : Str) : st (nmOf x) = x := (st_of x).symm
theorem idx_get : ∀ {N : List Nm} {x : Nm} {k i : Nat}, idx N x k = some i → k ≤ i ∧ N[i - k]? = some x
  | [], _, _, _, h => by cases h
  | y :: r, x, k, i, h => by
    unfold idx at h
    split at h
    · rename_i e
      cases h
      exact ⟨Nat.le_refl _, by simp [e]⟩
    · obtain ⟨h1, h2⟩ := idx_get h
      exact ⟨by omega, by rw [show i - k = (i - (k + 1)) + 1 by omega]; simpa using h2⟩
section
variable {ctx : Ctx} {X : Cx} {Wx : WX} {g : G} {n : Nat}
theorem FX.ix (F : FX ctx X g n) {x : Str} {i : Nat} (h : idx ctx.N (nmOf x) 0 = some i) : X.N[i]? = some x := by
  obtain ⟨_, h2⟩ := idx_get h
  rw [F.N, List.getElem?_map, show i = i - 0 from rfl, h2, Option.map_some, st_nm]
theorem dbg_facts {x : Str} (h : isDbg x = false) : (x == ("__debug__" : Str)) = false ∧ (x == ("__classdict__" : Str)) = false ∧ x ≠ "__name__" := by
  unfold isDbg at h
  rw [Bool.or_eq_false_iff, Bool.or_eq_false_iff] at h
  exact ⟨h.1.1, h.1.2, fun e => by have := h.2; rw [e] at this; revert this; decide⟩
theorem FX.loc (F : FX ctx X g n) {x : Str} {i : Nat} (h : loc? ctx x = some i) : X.N[i]? = some x ∧ Vis X.env.scope x ∧ (x == ("__debug__" : Str)) = false ∧ (x == ("__classdict__" : Str)) = false := by
  unfold loc? at h
  split at h
  · rename_i c
    rw [Bool.and_eq_true, Bool.not_eq_true'] at c
    obtain ⟨d1, d2, _⟩ := dbg_facts c.2
    refine ⟨F.ix h, ?_, d1, d2⟩
    rw [F.sc]
    have v := c.1
    unfold visB at v
    unfold Vis
    split at v
    · exact .inl (by assumption)
    · exact .inr (.inl (by assumption))
    · exact .inr (.inr (by assumption))
    · cases v
  · cases h
theorem FX.sto (F : FX ctx X g n) {x : Str} {i : Nat} (h : sto? ctx x = some i) : X.N[i]? = some x ∧ Loc X.env.scope x ∧ (X.fn x = true ∨ X.env.scope.names.lookup x = some .local) := by
  unfold sto? at h
  rw [F.sc]
  split at h
  · rename_i e
    exact ⟨F.ix h, .inl e, .inr e⟩
  · rename_i e
    split at h
    · rename_i f
      exact ⟨F.ix h, .inr e, .inl (by rw [F.fn]; exact f)⟩
    · cases h
  · cases h
theorem FX.gl (F : FX ctx X g n) {x : Str} (h : gl? ctx x = true) : Gl X x ∧ (x == ("__debug__" : Str)) = false ∧ x ≠ "__name__" := by
  unfold gl? at h
  rw [Bool.and_eq_true, Bool.not_eq_true'] at h
  obtain ⟨d1, _, d3⟩ := dbg_facts h.2
  refine ⟨?_, d1, d3⟩
  show X.env.scope.names.lookup x = _
  rw [F.sc]
  have v := h.1
  unfold glB at v
  split at v
  · assumption
  · cases v
theorem FX.fr (F : FX ctx X g n) {x : Str} (h : ctx.free (nmOf x) = true) : X.mg x = none := by
  have := F.free _ h
  rw [st_nm] at this
  exact this
theorem FX.bi (F : FX ctx X g n) {x : Str} (h : bi? ctx x = true) : Gl X x ∧ X.mg x = none := by
  unfold bi? at h
  rw [Bool.and_eq_true] at h
  exact ⟨(F.gl h.1).1, F.fr h.2⟩
end

/-! ### what is asked of the steps below -/
structure SndR (r : Rc sh) : Prop where
  e : ∀ {ctx : Ctx} {X : Cx} {Wx : WX} {g : G} {n : Nat}, Cc X Wx → FX ctx X g n → ∀ e, PE X e (tev X.K Wx g (r.e ctx e))
  f : ∀ {ctx : Ctx} {X : Cx} {Wx : WX} {g : G} {n : Nat}, Cc X Wx → FX ctx X g n → ∀ e, PE X e (tfr X.K Wx g (r.f ctx e))
  fs : ∀ {ctx : Ctx} {X : Cx} {Wx : WX} {g : G} {n : Nat}, Cc X Wx → FX ctx X g n → ∀ (e : Expr) (y : Str) (py spos : Pos) (i : Nat), swB ctx.sc y py e = true → X.N[i]? = some y → PSet X y py e spos i (tfr X.K Wx g (r.f ctx e))
  t : ∀ {ctx : Ctx} {X : Cx} {Wx : WX} {g : G} {n : Nat}, Cc X Wx → FX ctx X g n → ∀ e, PT X e (ttx X.K Wx g (r.t ctx e))
  a : ∀ {ctx : Ctx} {X : Cx} {Wx : WX} {g : G} {n : Nat}, Cc X Wx → FX ctx X g n → ∀ es, PA X es (tax X.K Wx g (r.a ctx es))
  k : ∀ {ctx : Ctx} {X : Cx} {Wx : WX} {g : G} {n : Nat}, Cc X Wx → FX ctx X g n → ∀ ks, PK X ks (tax X.K Wx g (r.k ctx ks))
  kl : ∀ {ctx : Ctx} {g : G} {s s' : S} {l : List D} (ks : List Keyword), r.k ctx ks g s = .ok l s' → l.length = ks.length
  i : ∀ {ctx : Ctx} {X : Cx} {Wx : WX} {g : G} {n : Nat}, Cc X Wx → FX ctx X g n → ∀ tg e, PI X tg e (tix X.K Wx g (r.i ctx tg e))
  g : ∀ {ctx : Ctx} (K : Fg) {e : Expr} {tg : Tg} {js : List Nat}, r.g ctx e = some (tg, js) → ∃ t, TgOk K js tg t ∧ ∀ (X : Cx) (Wx : WX) (g : G) (n : Nat), X.K = K → Cc X Wx → FX ctx X g n → PG X e t
  s : ∀ {ctx : Ctx} {X : Cx} {Wx : WX} {g : G} {n : Nat}, Cc X Wx → FX ctx X g n → ∀ s, PS X s (tst X.K Wx g (r.s ctx s))
  b : ∀ {ctx : Ctx} {X : Cx} {Wx : WX} {g : G} {n : Nat}, Cc X Wx → FX ctx X g n → ∀ ss, PSs X ss (tst X.K Wx g (r.b ctx ss))

section
variable {r : Rc sh} {ctx : Ctx} {X : Cx} {Wx : WX} {g : G} {n : Nat}
theorem z_o (R : SndR r) (cc : Cc X Wx) (F : FX ctx X g n) (e : Expr) : PE X e (top X.K Wx g (cO r ctx e)) := by
  unfold cO
  split
  · rename_i x p
    split
    · rename_i i h
      obtain ⟨h1, h2, h3, h4⟩ := F.loc h
      exact so_pk h1 h2 h3 h4
    · exact so_ex (R.e cc F _)
  · exact so_ex (R.e cc F _)
theorem z_name (cc : Cc X Wx) (F : FX ctx X g n) (x : Str) (p : Pos) : PE X (.Name x p) (tev X.K Wx g (cName (α := sh) ctx x)) := by
  unfold cName
  split
  · rename_i i h
    obtain ⟨h1, h2, h3, h4⟩ := F.loc h
    exact se_var h1 h2 h3 h4
  · split
    · rename_i h
      obtain ⟨h1, h2, _⟩ := F.gl h
      split
      · rename_i d hd
        obtain ⟨v, u, e1, e2, e3⟩ := F.con _ _ hd
        rw [st_nm] at e1
        exact (pe_glob h1 e1 e2 h2).mono fun σ H Q ⟨W, s, rl, q⟩ => q W H v Ext.refl rl (e3 W H)
      · exact se_bad
    · exact se_bad
theorem z_const {c : Const} {j} {p : Pos} : PE X (.Constant c j p) (tev X.K Wx g (cConst sh c)) := by
  cases c with
  | none => exact se_non
  | bool b => exact se_bl
  | int i => exact se_int
  | str x => exact se_str
  | _ => exact se_bad
theorem z_bool (R : SndR r) (cc : Cc X Wx) (F : FX ctx X g n) (op : BoolOp) (p : Pos) : ∀ vs : List Expr, PE X (.BoolOp op vs p) (tev X.K Wx g (cBool r ctx op vs))
  | [] => se_bad
  | [a] => se_one (R.e cc F a)
  | a :: b :: rest => by
    cases op with
    | And => exact se_and (R.e cc F a) (z_bool R cc F .And p (b :: rest))
    | Or => exact se_or (R.e cc F a) (z_bool R cc F .Or p (b :: rest))
theorem isNone_eq {e : Expr} (h : isNone e = true) : ∃ j p, e = .Constant .none j p := by
  cases e with
  | Constant c j p =>
    cases c with
    | none => exact ⟨j, p, rfl⟩
    | _ => cases h
  | _ => cases h
theorem cop_ok {F : Fg} (hu : X.A.units + 200 < cLine) {op : CmpOp} {o : O2} (h : cop op = some o) : ∃ rr, OpR X (compareOp op) rr ∧ Prim2 X.K o.f rr := by
  cases op <;> simp only [cop, Option.some.injEq, reduceCtorEq] at h <;> subst h
  · exact ⟨_, op_eqA hu, pr_eq⟩
  · exact ⟨_, op_neA hu, pr_ne⟩
  · exact ⟨_, op_ltA, pr_lt⟩
  · exact ⟨_, op_leA, pr_le⟩
  · exact ⟨_, op_gtA, pr_gt⟩
  · exact ⟨_, op_geA, pr_ge⟩
  · exact ⟨_, op_inA hu, pr_in⟩
  · exact ⟨_, op_niA hu, pr_notIn⟩
theorem vop_ok (hu : X.A.units + 200 < cLine) {op : CmpOp} {o : OV} (h : vop op = some o) : ∃ rr, OpR X (compareOp op) rr ∧ PrimV X.K o.f rr := by
  cases op <;> simp only [vop, Option.some.injEq, reduceCtorEq] at h <;> subst h
  · exact ⟨_, op_eqA hu, pr_eq⟩
  · exact ⟨_, op_neA hu, pr_ne⟩
  · exact ⟨_, op_ltA, pr_lt⟩
  · exact ⟨_, op_leA, pr_le⟩
  · exact ⟨_, op_gtA, pr_gt⟩
  · exact ⟨_, op_geA, pr_ge⟩
theorem bop_ok {op : Operator} {o : O2} (h : bop op = some o) : ∃ rr, OpR X (binaryOp op) rr ∧ Prim2 X.K o.f rr := by
  cases op <;> simp only [bop, Option.some.injEq, reduceCtorEq] at h <;> subst h
  · exact ⟨_, op_addA, pr_add⟩
  · exact ⟨_, op_sub, pr_sub⟩
  · exact ⟨_, op_mulA, pr_mul⟩
  · exact ⟨_, op_mod, pr_mod⟩
  · exact ⟨_, op_pow, pr_pow⟩
  · exact ⟨_, op_fdivW, pr_fdiv⟩
theorem bopL_ok {op : Operator} {o : O2} (h : bopL op = some o) : ∃ rr, OpR X (binaryOp op) rr ∧ FrB2 X.K o.f rr := by
  cases op <;> simp only [bopL, Option.some.injEq, reduceCtorEq] at h <;> subst h
  · exact ⟨_, op_addA, fr_addL⟩
  · exact ⟨_, op_mulA, fr_mulL⟩
/-- a comparison, as a value and as a test -/
theorem z_cmp (R : SndR r) (cc : Cc X Wx) (F : FX ctx X g n) (a : Expr) (ops : List CmpOp) (cs : List Expr) (p : Pos) : PE X (.Compare a ops cs p) (tev X.K Wx g (cCmp r ctx a ops cs)) ∧ PT X (.Compare a ops cs p) (ttx X.K Wx g (Cy.tE (cCmp r ctx a ops cs))) := by
  have bad : PE X (.Compare a ops cs p) (tev X.K Wx g badE) ∧ PT X (.Compare a ops cs p) (ttx X.K Wx g (Cy.tE badE)) := ⟨se_bad, ⟨fun pins s σ H Q I ⟨W, s', rr, q⟩ => q.elim⟩⟩
  unfold cCmp
  split
  · rename_i op b
    split
    · rename_i h
      rw [Bool.and_eq_true] at h
      obtain ⟨j, q, rfl⟩ := isNone_eq h.1
      have e : op = .Is := by cases op <;> first | rfl | exact absurd h.2 (by decide)
      subst e
      exact ⟨se_isN (z_o R cc F a), st_isN (z_o R cc F a)⟩
    · split
      · rename_i h
        rw [Bool.and_eq_true] at h
        obtain ⟨j, q, rfl⟩ := isNone_eq h.1
        have e : op = .IsNot := by cases op <;> first | rfl | exact absurd h.2 (by decide)
        subst e
        exact ⟨se_notN (z_o R cc F a), st_notN (z_o R cc F a)⟩
      split
      · rename_i o ho
        split
        · exact bad
        · rename_i hm
          have hm : behindInMarks op b = false := by simpa using hm
          obtain ⟨rr, h1, h2⟩ := cop_ok (F := X.K) cc.un ho
          exact ⟨se_cmp h1 h2 hm (z_o R cc F a) (z_o R cc F b), st_cmp h1 h2 hm (z_o R cc F a) (z_o R cc F b)⟩
      · exact bad
  · rename_i op op' b c
    split
    · rename_i o o' h1 h2
      split
      · exact bad
      · rename_i hm
        have hm : lastMarks [op, op'] [b, c] = false := by simpa using hm
        obtain ⟨rr, a1, a2⟩ := vop_ok cc.un h1
        obtain ⟨rr', b1, b2⟩ := vop_ok cc.un h2
        exact ⟨se_chain a1 b1 a2 b2 hm (R.e cc F a) (R.e cc F b) (R.e cc F c), st_chain a1 b1 a2 b2 hm (R.e cc F a) (R.e cc F b) (R.e cc F c)⟩
    · exact bad
  · exact bad
theorem z_part (R : SndR r) (cc : Cc X Wx) (F : FX ctx X g n) (o : Option Expr) : PO X o (tpt X.K Wx g (o.map (r.e ctx))) := by
  cases o with
  | none => exact sp_none
  | some e => exact sp_some (R.e cc F e)
theorem isNo_eq {β : Type} {o : Option β} (h : isNo o = true) : o = none := by
  cases o with
  | none => rfl
  | some _ => cases h
theorem isM1_eq {e : Expr} (h : isM1 e = true) : ∃ k q1 q2, e = .UnaryOp .USub (.Constant (.int 1) k q1) q2 := by
  unfold isM1 at h
  split at h
  · exact ⟨_, _, _, rfl⟩
  · cases h
theorem is0_eq {o : Option Expr} (h : is0 o = true) : ∃ k p, o = some (.Constant (.int 0) k p) := by
  unfold is0 at h
  split at h
  · exact ⟨_, _, rfl⟩
  · cases h
theorem z_sub (R : SndR r) (cc : Cc X Wx) (F : FX ctx X g n) (a k : Expr) (p : Pos) : PE X (.Subscript a k p) (tev X.K Wx g (cSub r ctx a k (.Subscript a k p))) := by
  unfold cSub
  split
  · split
    · exact se_cut (z_o R cc F a) (z_part R cc F _) (z_part R cc F _)
    · split
      · rename_i h
        rw [Bool.and_eq_true] at h
        have e1 := isNo_eq h.1
        subst e1
        obtain ⟨k, q1, q2, rfl⟩ := isM1_eq h.2
        split
        · rename_i h2
          exact se_revA (b := false) (.inl ⟨rfl, isNo_eq h2⟩) (z_o R cc F a)
        · split
          · rename_i h2
            exact se_revA (b := true) (.inr ⟨rfl, is0_eq h2⟩) (z_o R cc F a)
          · exact se_bad
      · exact se_bad
  · rename_i hk
    exact se_ix cc.un (z_o R cc F a) (z_o R cc F k) (plainIx_of (by
      cases k <;> first | rfl | exact (hk _ _ _ _ rfl).elim))
theorem kws_eq : ∀ {kws : List Keyword} {ks : List Str}, kws.mapM (·.arg) = some ks → kws.map (·.arg) = ks.map some
  | [], ks, h => by cases h; rfl
  | k :: kws, ks, h => by
    rw [List.mapM_cons] at h
    cases q : k.arg with
    | none => rw [q] at h; cases h
    | some x =>
      rw [q] at h
      cases q2 : kws.mapM (·.arg) with
      | none => rw [q2] at h; cases h
      | some xs =>
        rw [q2] at h
        cases h
        rw [List.map_cons, q, kws_eq q2]
        rfl
theorem z_user (R : SndR r) (cc : Cc X Wx) (F : FX ctx X g n) {x : Str} {ps : List Nm} {dfl : List D} (hg : gl? ctx x = true) (hs : ctx.sig (nmOf x) = some (ps, dfl)) (args : List Expr) (kws : List Keyword) (p0 p : Pos) :
    PE X (.Call (.Name x p0) args kws p) (tev X.K Wx g (cUser r ctx x ps dfl args kws)) := by
  unfold cUser
  split
  · rename_i hst
    split
    · rename_i ks hk
      split
      · rename_i pp hb
        obtain ⟨h1, h2, _⟩ := F.gl hg
        have cal := F.sig _ _ _ hs
        rw [st_nm] at cal
        have hl : ∀ g s l s', r.k ctx kws g s = .ok l s' → l.length = ks.length := fun g s l s' h => by
          rw [R.kl kws h]
          have := congrArg List.length (kws_eq hk)
          simpa using this
        cases args with
        | nil => exact se_call0 cc F.room cal h1 h2 (R.k cc F kws) (kws_eq hk) hb hl
        | cons a args => exact se_call cc F.room cal h1 h2 (R.a cc F _) (by simp) (R.k cc F kws) hst (kws_eq hk) hb hl
      · exact se_bad
    · exact se_bad
  · exact se_bad
theorem b1_ok (cc : Cc X Wx) {x : Str} {o : O1} (h : b1 x = some o) (hg : Gl X x) (hm : X.mg x = none) {e : Expr} {oa : Op} (ha : PE X e (top X.K Wx g oa)) (hs : isStar e = false) (p0 p : Pos) : PE X (.Call (.Name x p0) [e] [] p) (tev X.K Wx g (Cy.o1 o.f oa)) := by
  unfold b1 at h
  split at h
  · rename_i e; subst e; cases h; exact se_b1 cr_lenA pr_len hg hm (by decide +kernel) (by decide) (by decide) ha hs
  split at h
  · rename_i e; subst e; cases h; exact se_t1 call_int1 pr_int hg hm (by decide +kernel) (by decide) (by decide) ha hs
  split at h
  · rename_i e; subst e; cases h; exact se_b1 call_abs pr_abs hg hm (by decide +kernel) (by decide) (by decide) ha hs
  split at h
  · rename_i e; subst e; cases h; exact se_b1 (cr_sum cc.calm) pr_sum hg hm (by decide +kernel) (by decide) (by decide) ha hs
  split at h
  · rename_i e; subst e; cases h; exact se_b1 (cr_max cc.calm) pr_max hg hm (by decide +kernel) (by decide) (by decide) ha hs
  split at h
  · rename_i e; subst e; cases h; exact se_b1 (cr_min cc.calm) pr_min hg hm (by decide +kernel) (by decide) (by decide) ha hs
  split at h
  · rename_i e; subst e; cases h; exact se_b1 (cr_all cc.calm) pr_all hg hm (by decide +kernel) (by decide) (by decide) ha hs
  split at h
  · rename_i e; subst e; cases h; exact se_b1 (cr_any cc.calm) pr_any hg hm (by decide +kernel) (by decide) (by decide) ha hs
  split at h
  · rename_i e; subst e; cases h; exact se_t1 call_tupZ pr_tup hg hm (by decide +kernel) (by decide) (by decide) ha hs
  split at h
  · rename_i e; subst e; cases h; exact se_b1 (cr_repr cc.un cc.gd) pr_repr hg hm (by decide +kernel) (by decide) (by decide) ha hs
  · cases h
theorem b2_ok (cc : Cc X Wx) {x : Str} {o : O2} (h : b2 x = some o) (hg : Gl X x) (hm : X.mg x = none) {e e2 : Expr} {oa ob : Op} (ha : PE X e (top X.K Wx g oa)) (hb : PE X e2 (top X.K Wx g ob)) (hs : isStar e = false) (hs2 : isStar e2 = false) (p0 p : Pos) :
    PE X (.Call (.Name x p0) [e, e2] [] p) (tev X.K Wx g (Cy.o2 o.f oa ob)) := by
  unfold b2 at h
  split at h
  · rename_i e; subst e; cases h; exact se_b2 (call_max2 cc.calm) pr_max2 hg hm (by decide +kernel) (by decide) (by decide) ha hb hs hs2
  split at h
  · rename_i e; subst e; cases h; exact se_b2 (call_min2 cc.calm) pr_min2 hg hm (by decide +kernel) (by decide) (by decide) ha hb hs hs2
  · cases h
theorem tn_ok {x : Str} {t : Tn} (h : tn? x = some t) : x = tnStr t := by
  unfold tn? at h
  repeat' split at h
  all_goals first
    | (cases h; assumption)
    | cases h
theorem z_srt (R : SndR r) (cc : Cc X Wx) (F : FX ctx X g n) (hg : Gl X "sorted") (hm : X.mg "sorted" = none) (a : Expr) (p0 p : Pos) : PE X (.Call (.Name "sorted" p0) [a] [] p) (tev X.K Wx g (cSrt r ctx a)) := by
  unfold cSrt
  split
  · exact se_bad
  · rename_i h
    exact se_sort cc.calm cc.un hg hm (z_o R cc F _) (by simpa using h)
theorem z_sorted (R : SndR r) (cc : Cc X Wx) (F : FX ctx X g n) (hg : Gl X "sorted") (hm : X.mg "sorted" = none) (a : Expr) (p0 p : Pos) : PE X (.Call (.Name "sorted" p0) [a] [] p) (tev X.K Wx g (cSorted r ctx a)) := by
  unfold cSorted
  split
  · split
    · rename_i e
      subst e
      split
      · rename_i h
        rw [Bool.and_eq_true, Bool.not_eq_true'] at h
        obtain ⟨b1, b2⟩ := F.bi h.1
        exact se_sset cc.calm hg hm b1 b2 (z_o R cc F _) h.2
      · exact se_bad
    · exact z_srt R cc F hg hm _ p0 p
  · exact z_srt R cc F hg hm _ p0 p
theorem z_built (R : SndR r) (cc : Cc X Wx) (F : FX ctx X g n) {x : Str} (hg : gl? ctx x = true) (hf : ctx.free (nmOf x) = true) (args : List Expr) (p0 p : Pos) :
    PE X (.Call (.Name x p0) args [] p) (tev X.K Wx g (cBuilt r ctx x args (.Call (.Name x p0) args [] p))) := by
  obtain ⟨h1, h2, h3⟩ := F.gl hg
  have hm := F.fr hf
  unfold cBuilt
  split
  · rename_i a
    split
    · exact se_bad
    · rename_i hs
      have hs : isStar a = false := by simpa using hs
      split
      · rename_i o ho
        exact b1_ok cc ho h1 hm (z_o R cc F a) hs p0 p
      · split
        · exact se_fr (R.f cc F _)
        · split
          · rename_i e
            subst e
            exact z_sorted R cc F h1 hm a p0 p
          · exact se_bad
  · rename_i a b
    split
    · exact se_bad
    · rename_i hs
      have hs : (isStar a || isStar b) = false := by simpa using hs
      rw [Bool.or_eq_false_iff] at hs
      split
      · rename_i o ho
        exact b2_ok cc ho h1 hm (z_o R cc F a) (z_o R cc F b) hs.1 hs.2 p0 p
      · split
        · rename_i e
          subst e
          split
          · rename_i y q
            split
            · rename_i t ht
              split
              · rename_i hb
                obtain ⟨b1, b2⟩ := F.bi hb
                have e := tn_ok ht
                subst e
                exact se_isi h1 hm b1 b2 (z_o R cc F a) hs.1
              · exact se_bad
            · exact se_bad
          · exact se_bad
        · exact se_bad
  · exact se_bad
theorem base_recv {o : Expr} {m : Str} {env : Env} (h : isRecv o = true) : attributeBase o m env (eval o env) = eval o env := by
  cases o <;> first | rfl | cases h
theorem z_get (R : SndR r) (cc : Cc X Wx) (F : FX ctx X g n) (o : Expr) (m : Str) (apos : Pos) (args : List Expr) (p : Pos) : PE X (.Call (.Attribute o m apos) args [] p) (tev X.K Wx g (cGet r ctx o m apos args p)) := by
  unfold cGet
  split
  · split
    · rename_i e
      subst e
      split
      · rename_i h
        simp only [Bool.and_eq_true, Bool.not_eq_true'] at h
        obtain ⟨⟨⟨h1, h2⟩, h3⟩, h4⟩ := h
        exact se_get cc.un (z_o R cc F _) (z_o R cc F _) (R.e cc F _) h3 h4 h1 (base_recv h2)
      · exact se_bad
    · exact se_bad
  · rename_i a
    split
    · rename_i h
      simp only [Bool.and_eq_true, Bool.not_eq_true'] at h
      obtain ⟨⟨h1, h2⟩, h3⟩ := h
      have pa : PA X [a] (tax X.K Wx g (Cy.aCons (r.e ctx a) Cy.aNil)) := sa_cons (R.e cc F a) sa_nil (starEach_of h3)
      split
      · rename_i e; exact se_cnt false cc.un (z_o R cc F _) pa h3 h1 _ e (base_recv h2)
      split
      · rename_i e; exact se_cnt true cc.un (z_o R cc F _) pa h3 h1 _ e (base_recv h2)
      · exact se_bad
    · exact se_bad
  · exact se_bad
theorem z_meth (R : SndR r) (cc : Cc X Wx) (F : FX ctx X g n) (o : Expr) (m : Str) (apos : Pos) (args : List Expr) (p : Pos) : PE X (.Call (.Attribute o m apos) args [] p) (tev X.K Wx g (cMeth r ctx o m apos args p)) := by
  have one : ∀ a, PA X [a] (tax X.K Wx g (Cy.aCons (r.e ctx a) Cy.aNil)) ∨ isStar a = true := fun a => by
    cases hs : isStar a with
    | false => exact .inl (sa_cons (R.e cc F a) sa_nil (starEach_of hs))
    | true => exact .inr rfl
  unfold cMeth
  split
  · rename_i y q
    split
    · rename_i i hi
      obtain ⟨h1, h2, h3, h4⟩ := F.loc hi
      split
      · rename_i hl
        split
        · split
          · rename_i e; subst e; exact se_pop h1 h2 h3 h4 hl
          · exact se_bad
        · rename_i a
          split
          · exact se_bad
          · rename_i hs
            have hs : isStar a = false := by simpa using hs
            have pa : PA X [a] (tax X.K Wx g (Cy.aCons (r.e ctx a) Cy.aNil)) := (one a).resolve_right (by rw [hs]; decide)
            split
            · rename_i e; subst e; exact se_app h1 h2 h3 h4 pa hs hl
            split
            · rename_i e; subst e; exact se_ext h1 h2 h3 h4 pa hs hl
            split
            · rename_i e; subst e; exact se_popAt h1 h2 h3 h4 pa hs hl
            · exact z_get R cc F _ _ _ _ _
        · rename_i a b
          split
          · rename_i e
            subst e
            split
            · exact se_bad
            · rename_i hs
              have hs : (isStar a || isStar b) = false := by simpa using hs
              rw [Bool.or_eq_false_iff] at hs
              exact se_sdef h1 h2 h3 h4 (R.e cc F a) (R.e cc F b) hs.1 hs.2 hl
          · exact z_get R cc F _ _ _ _ _
        · exact se_bad
      · exact se_bad
    · exact se_bad
  · exact z_get R cc F _ _ _ _ _
theorem isEmpty_eq {α : Type} {l : List α} (h : l.isEmpty = true) : l = [] := by
  cases l with
  | nil => rfl
  | cons _ _ => cases h
theorem z_call (R : SndR r) (cc : Cc X Wx) (F : FX ctx X g n) (f : Expr) (args : List Expr) (kws : List Keyword) (p : Pos) : PE X (.Call f args kws p) (tev X.K Wx g (cCall r ctx f args kws p (.Call f args kws p))) := by
  unfold cCall
  split
  · rename_i x q
    split
    · rename_i hg
      split
      · rename_i ps dfl hs
        exact z_user R cc F hg hs args kws q p
      · split
        · rename_i h
          rw [Bool.and_eq_true] at h
          have e := isEmpty_eq h.2
          subst e
          exact z_built R cc F hg h.1 args q p
        · exact se_bad
    · exact se_bad
  · rename_i o m apos
    split
    · rename_i h
      have e := isEmpty_eq h
      subst e
      exact z_meth R cc F o m apos args p
    · exact se_bad
  · exact se_bad
/-- expressions -/
theorem z_e (R : SndR r) (cc : Cc X Wx) (F : FX ctx X g n) (e : Expr) : PE X e (tev X.K Wx g (stepE r ctx e)) := by
  unfold stepE
  split
  · exact z_name cc F _ _
  · exact z_const
  · split
    · rename_i o ho
      obtain ⟨rr, h1, h2⟩ := bop_ok ho
      exact se_bin h1 h2 (z_o R cc F _) (z_o R cc F _)
    · exact se_bad
  · split
    · exact se_un un_neg pr_neg (z_o R cc F _)
    · exact se_not (R.e cc F _)
    · exact se_bad
  · exact z_bool R cc F _ _ _
  · exact (z_cmp R cc F _ _ _ _).1
  · exact se_if (R.t cc F _) (R.e cc F _) (R.e cc F _)
  · exact z_sub R cc F _ _ _
  · exact se_tup (R.a cc F _)
  · exact z_call R cc F _ _ _ _
  · exact se_fr (R.f cc F _)
  · exact se_fr (R.f cc F _)
  · exact se_fr (R.f cc F _)
  · exact se_fr (R.f cc F _)
  · exact se_bad
end
end Cy

set_option Elab.async false
set_option linter.all false
set_option maxRecDepth 100000
/-! Cy: soundness of what is made, of tests, rows, iterators, targets. -/
namespace Cy
open L2 PySem PySem.Spec PyProof.Rows

section
variable {r : Rc sh} {ctx : Ctx} {X : Cx} {Wx : WX} {g : G} {n : Nat}
theorem cc_blk (cc : Cc X Wx) {s : Shared} {H : Hp} {scope : Scope} {cenv : Env} {fp : List Addr} : Cc (X.blk s H scope cenv fp) NoX :=
  ⟨cc.calm, cc.nd, cc.un, cc.gd, PassesOwn.never, fun u s' ⟨_, _, _, _, _, _, _, _, _, _, _, _, _, _, _, _, w⟩ => w⟩
theorem fx_blk (F : FX ctx X g n) {s : Shared} {H : Hp} {scope : Scope} {C : Addr} {cl : List (Str × Addr)} {fp : List Addr} (hk : scope.kind = .function) : FX (ctx.blk scope) (X.blk s H scope (compEnvC scope cl C X.env) fp) g n :=
  ⟨F.N, by show relS scope X.env.scope = relS scope ctx.sc; rw [F.sc], fun x => rfl, hk, fun x ps dfl h => ⟨(F.sig x ps dfl h).ex⟩, F.con, F.free, F.room⟩
theorem idx_none : ∀ {N : List Nm} {x : Nm} {k : Nat}, idx N x k = none → x ∉ N
  | [], _, _, _ => by simp
  | y :: r, x, k, h => by
    unfold idx at h
    split at h
    · cases h
    · rename_i ne
      rw [List.mem_cons, not_or]
      exact ⟨fun e => ne e.symm, idx_none h⟩
theorem blk_ok (F : FX ctx X g n) {scope : Scope} (h : blkB ctx scope = true) : BlkOk X.N X.env.scope scope (ownOf ctx.N scope) ∧ scope.kind = .function := by
  unfold blkB at h
  rw [Bool.and_eq_true, Bool.and_eq_true] at h
  obtain ⟨⟨h1, h2⟩, h3⟩ := h
  rw [List.all_eq_true] at h2 h3
  have hk : scope.kind = .function := by
    revert h1
    cases scope.kind <;> first | (intro _; rfl) | (intro z; cases z)
  refine ⟨⟨hk, fun y hy => eq_of_beq (h2 y hy), fun p hp => ?_, fun y hy e => ?_, fun y hy e => ?_⟩, hk⟩
  · unfold ownOf at hp
    rw [List.mem_filterMap] at hp
    obtain ⟨y, _, e⟩ := hp
    split at e
    · cases q : idx ctx.N (nmOf y.1) 0 with
      | none => rw [q] at e; cases e
      | some i => rw [q] at e; cases e; exact F.ix q
    · cases e
  · have := h3 y hy
    rw [e] at this
    rw [F.sc]
    simp only [] at this
    split at this
    · exact .inl (by assumption)
    · exact .inr (by assumption)
    · cases this
  · have lc : isLC y.2 = true := by rcases e with e | e <;> rw [e] <;> rfl
    cases q : idx ctx.N (nmOf y.1) 0 with
    | none =>
      refine .inr fun hm => idx_none q ?_
      rw [F.N] at hm
      obtain ⟨m, hm, e⟩ := List.mem_map.mp hm
      rw [← st_nm y.1] at e
      rw [← st_inj e]; exact hm
    | some i =>
      refine .inl (List.mem_map.mpr ⟨(y.1, i), ?_, rfl⟩)
      unfold ownOf
      exact List.mem_filterMap.mpr ⟨y, hy, by rw [if_pos lc, q]; rfl⟩
theorem sub_ok {js : List Nat} {own : List (Str × Nat)} (h : subB js own = true) : ∀ j ∈ js, j ∈ own.map (·.2) := fun j hj => by
  unfold subB at h
  rw [List.all_eq_true] at h
  have := h j hj
  rw [List.contains_eq_mem, decide_eq_true_eq] at this
  exact this
theorem z_ifs (R : SndR r) (cc : Cc X Wx) (F : FX ctx X g n) {ifs : List Expr} {t : Tx} (h : cIfs r ctx ifs = some t) : PTs X ifs (ttx X.K Wx g t) := by
  unfold cIfs at h
  split at h
  · cases h; exact stt_nil
  · cases h; exact stt_one (R.t cc F _)
  · cases h
theorem sw_eq (F : FX ctx X g n) (e : Expr) (y : Str) (py : Pos) (l : Nat) : swapsWith e (some (.Name y py)) l X.env = pure (swB ctx.sc y py e) ∨ (∃ a b c d, e = .SetComp a b c d) := by
  have hb : X.env.blockKind = .function := by unfold Env.blockKind; rw [F.sc, F.kd]; rfl
  have hk : X.env.kindOf y = ctx.sc.names.lookup y := by unfold Env.kindOf; rw [F.sc]
  cases e with
  | ListComp a b c d =>
    left
    unfold swapsWith swB
    simp only [hb, hk, F.kd, Expr.pos]
  | DictComp a a' b c d =>
    left
    unfold swapsWith swB
    simp only [hb, hk, F.kd, Expr.pos]
  | SetComp a b c d => exact .inr ⟨a, b, c, d, rfl⟩
  | _ => exact .inl rfl
theorem sw_loc {e : Expr} {y : Str} {py : Pos} (F : FX ctx X g n) (h : swB ctx.sc y py e = true) : X.env.scope.names.lookup y = some .local := by
  rw [F.sc]
  cases e with
  | ListComp a b c d =>
    unfold swB at h
    simp only [Bool.and_eq_true] at h
    exact eq_of_beq h.1.1.2
  | DictComp a a' b c d =>
    unfold swB at h
    simp only [Bool.and_eq_true] at h
    exact eq_of_beq h.1.1.2
  | _ => cases h
theorem sw_true' {e : Expr} {y : Str} {py : Pos} (F : FX ctx X g n) (h : swB ctx.sc y py e = true) (l : Nat) : swapsWith e (some (.Name y py)) l X.env = pure true := by
  rcases sw_eq F e y py l with z | ⟨a, b, c, d, rfl⟩
  · rw [z, h]
  · cases h
/-- list comprehensions: the value, and the value that a name takes -/
theorem z_lc (R : SndR r) (cc : Cc X Wx) (F : FX ctx X g n) (elt : Expr) (gens : List Comprehension) (scope : Scope) (p : Pos) : PE X (.ListComp elt gens scope p) (tfr X.K Wx g (cLC r ctx elt gens scope)) ∧
    ∀ (y : Str) (py spos : Pos) (i : Nat), swB ctx.sc y py (.ListComp elt gens scope p) = true → X.N[i]? = some y → PSet X y py (.ListComp elt gens scope p) spos i (tfr X.K Wx g (cLC r ctx elt gens scope)) := by
  have bad : PE X (.ListComp elt gens scope p) (tfr X.K Wx g badE) ∧ ∀ (y : Str) (py spos : Pos) (i : Nat), swB ctx.sc y py (.ListComp elt gens scope p) = true → X.N[i]? = some y → PSet X y py (.ListComp elt gens scope p) spos i (tfr X.K Wx g badE) :=
    ⟨sf_bad, fun y py spos i _ _ => ⟨fun pins s σ H D I ⟨W, s', rr, q⟩ => q.elim⟩⟩
  unfold cLC
  simp only []
  split
  · rename_i hb
    obtain ⟨ok, hk⟩ := blk_ok F hb
    split
    · rename_i tg iter ifs a
      split
      · rename_i h
        rw [Bool.and_eq_true, Bool.not_eq_true'] at h
        have ea : a = 0 := eq_of_beq h.1
        subst ea
        split
        · rename_i gg js t h1 h2
          split
          · rename_i h3
            obtain ⟨gr, gk, pg⟩ := R.g X.K h1
            have pg : Blks X scope fun Y => PG Y tg gr := fun s H C cl fp => pg _ NoX g n rfl (cc_blk cc) (fx_blk F hk)
            have pt : Blks X scope fun Y => PTs Y ifs (ttx X.K NoX g t) := fun s H C cl fp => z_ifs R (cc_blk cc) (fx_blk F hk) h2
            have pe : Blks X scope fun Y => PE Y elt (tev X.K NoX g (r.e (ctx.blk scope) elt)) := fun s H C cl fp => R.e (cc_blk cc) (fx_blk F hk) elt
            exact ⟨sf_comp cc (R.i cc F tg iter) ok gk (sub_ok h3) pg pt pe h.2, fun y py spos i hs hy => ps_setC cc hy (sw_loc F hs) (sw_true' F hs _) (R.i cc F tg iter) ok gk (sub_ok h3) pg pt pe h.2⟩
          · exact bad
        · exact bad
      · exact bad
    · rename_i tg iter ifs a tg1 iter1 ifs1 a1
      split
      · rename_i h
        rw [Bool.and_eq_true, Bool.and_eq_true, Bool.and_eq_true, Bool.not_eq_true', Bool.not_eq_true'] at h
        obtain ⟨⟨⟨e1, e2⟩, e3⟩, e4⟩ := h
        have ea : a = 0 := eq_of_beq e1
        have eb : a1 = 0 := eq_of_beq e2
        subst ea eb
        split
        · rename_i gg js t g1 ks t1 h1 h2 h1' h2'
          split
          · rename_i h3
            rw [Bool.and_eq_true] at h3
            obtain ⟨gr, gk, pg⟩ := R.g X.K h1
            obtain ⟨gr1, gk1, pg1⟩ := R.g X.K h1'
            have pg : Blks X scope fun Y => PG Y tg gr := fun s H C cl fp => pg _ NoX g n rfl (cc_blk cc) (fx_blk F hk)
            have pg1 : Blks X scope fun Y => PG Y tg1 gr1 := fun s H C cl fp => pg1 _ NoX g n rfl (cc_blk cc) (fx_blk F hk)
            have pt : Blks X scope fun Y => PTs Y ifs (ttx X.K NoX g t) := fun s H C cl fp => z_ifs R (cc_blk cc) (fx_blk F hk) h2
            have pt1 : Blks X scope fun Y => PTs Y ifs1 (ttx X.K NoX g t1) := fun s H C cl fp => z_ifs R (cc_blk cc) (fx_blk F hk) h2'
            have pi1 : Blks X scope fun Y => PI Y tg1 iter1 (tix X.K NoX g (r.i (ctx.blk scope) tg1 iter1)) := fun s H C cl fp => R.i (cc_blk cc) (fx_blk F hk) tg1 iter1
            have pe : Blks X scope fun Y => PE Y elt (tev X.K NoX g (r.e (ctx.blk scope) elt)) := fun s H C cl fp => R.e (cc_blk cc) (fx_blk F hk) elt
            exact ⟨sf_comp2 cc (R.i cc F tg iter) ok (sub_ok h3.2) gk (sub_ok h3.1) gk1 (fun j hj => hj) pg pt pi1 pg1 pt1 pe e3 e4,
              fun y py spos i hs hy => ps_setC2 cc hy (sw_loc F hs) (sw_true' F hs _) (R.i cc F tg iter) ok (sub_ok h3.2) gk (sub_ok h3.1) gk1 (fun j hj => hj) pg pt pi1 pg1 pt1 pe e3 e4⟩
          · exact bad
        · exact bad
      · exact bad
    · exact bad
  · exact bad
theorem z_dc (R : SndR r) (cc : Cc X Wx) (F : FX ctx X g n) (k v : Expr) (gens : List Comprehension) (scope : Scope) (p : Pos) : PE X (.DictComp k v gens scope p) (tfr X.K Wx g (cDC r ctx k v gens scope)) ∧
    ∀ (y : Str) (py spos : Pos) (i : Nat), swB ctx.sc y py (.DictComp k v gens scope p) = true → X.N[i]? = some y → PSet X y py (.DictComp k v gens scope p) spos i (tfr X.K Wx g (cDC r ctx k v gens scope)) := by
  have bad : PE X (.DictComp k v gens scope p) (tfr X.K Wx g badE) ∧ ∀ (y : Str) (py spos : Pos) (i : Nat), swB ctx.sc y py (.DictComp k v gens scope p) = true → X.N[i]? = some y → PSet X y py (.DictComp k v gens scope p) spos i (tfr X.K Wx g badE) :=
    ⟨sf_bad, fun y py spos i _ _ => ⟨fun pins s σ H D I ⟨W, s', rr, q⟩ => q.elim⟩⟩
  unfold cDC
  simp only []
  split
  · rename_i hb
    obtain ⟨ok, hk⟩ := blk_ok F hb
    split
    · rename_i tg iter ifs a
      split
      · rename_i h
        rw [Bool.and_eq_true, Bool.not_eq_true'] at h
        have ea : a = 0 := eq_of_beq h.1
        subst ea
        split
        · rename_i gg js t h1 h2
          split
          · rename_i h3
            obtain ⟨gr, gk, pg⟩ := R.g X.K h1
            have pg : Blks X scope fun Y => PG Y tg gr := fun s H C cl fp => pg _ NoX g n rfl (cc_blk cc) (fx_blk F hk)
            have pt : Blks X scope fun Y => PTs Y ifs (ttx X.K NoX g t) := fun s H C cl fp => z_ifs R (cc_blk cc) (fx_blk F hk) h2
            have pk : Blks X scope fun Y => PE Y k (tev X.K NoX g (r.e (ctx.blk scope) k)) := fun s H C cl fp => R.e (cc_blk cc) (fx_blk F hk) k
            have pe : Blks X scope fun Y => PE Y v (tev X.K NoX g (r.e (ctx.blk scope) v)) := fun s H C cl fp => R.e (cc_blk cc) (fx_blk F hk) v
            exact ⟨sf_compD cc (R.i cc F tg iter) ok gk (sub_ok h3) pg pt pk pe h.2, fun y py spos i hs hy => ps_setCD cc hy (sw_loc F hs) (sw_true' F hs _) (R.i cc F tg iter) ok gk (sub_ok h3) pg pt pk pe h.2⟩
          · exact bad
        · exact bad
      · exact bad
    · exact bad
  · exact bad
theorem z_pairs (R : SndR r) (cc : Cc X Wx) (F : FX ctx X g n) {p : Pos} : ∀ {ks : List (Option Expr)} {vs : List Expr} {ps : List (Ex × Ex)}, cPairs r ctx ks vs = some ps → PPs X p ks vs (ps.map fun p => (tev X.K Wx g p.1, tev X.K Wx g p.2)) ∧ ks.all (·.isSome) = true ∧ ks.length = vs.length ∧ ps.length = ks.length
  | [], [], ps, h => by cases h; exact ⟨pps_nil, rfl, rfl, rfl⟩
  | some k :: ks, v :: vs, ps, h => by
    unfold cPairs at h
    cases q : cPairs r ctx ks vs with
    | none => rw [q] at h; cases h
    | some qs =>
      rw [q] at h
      cases h
      obtain ⟨h1, h2, h3, h4⟩ := z_pairs R cc F (p := p) q
      exact ⟨pps_cons (R.e cc F k) (R.e cc F v) h1, by rw [List.all_cons, h2]; rfl, by rw [List.length_cons, List.length_cons, h3], congrArg (· + 1) h4⟩
  | [], _ :: _, _, h => by cases h
  | none :: _, [], _, h => by cases h
  | none :: _, _ :: _, _, h => by cases h
  | some _ :: _, [], _, h => by cases h
theorem z_dict (R : SndR r) (cc : Cc X Wx) (F : FX ctx X g n) (keys : List (Option Expr)) (values : List Expr) (p : Pos) : PE X (.Dict keys values p) (tfr X.K Wx g (cDict r ctx keys values)) := by
  unfold cDict
  split
  · rename_i h
    rw [Bool.and_eq_true] at h
    have e1 := isEmpty_eq h.1
    have e2 := isEmpty_eq h.2
    subst e1 e2
    exact sf_newK
  · rename_i hne
    split
    · rename_i hl
      split
      · rename_i ps hp
        obtain ⟨h1, h2, h3, h4⟩ := z_pairs R cc F (p := p) hp
        refine sf_disp h1 h2 h3 (fun e => ?_) hl fun g s m s' q => by rw [pairs_len q, h4]; exact hl
        subst e
        have : values = [] := by cases values with | nil => rfl | cons _ _ => cases h3
        subst this
        exact hne rfl
      · exact sf_bad
    · exact sf_bad
theorem zip2_of {a b c : Expr} {y : Str} (h : zip2? a = some (y, b, c)) : ∃ p q, y = "zip" ∧ a = .Call (.Name y p) [b, c] [] q := by
  unfold zip2? at h
  split at h
  · split at h
    · rename_i e
      cases h
      exact ⟨_, _, e, rfl⟩
    · cases h
  · cases h
/-- what is just made -/
theorem z_f (R : SndR r) (cc : Cc X Wx) (F : FX ctx X g n) (e : Expr) : PE X e (tfr X.K Wx g (stepF r ctx e)) := by
  unfold stepF
  split
  · exact sf_lst (R.a cc F _)
  · exact (z_lc R cc F _ _ _ _).1
  · exact (z_dc R cc F _ _ _ _ _).1
  · exact z_dict R cc F _ _ _
  · split
    · rename_i o ho
      obtain ⟨rr, h1, h2⟩ := bopL_ok ho
      exact sf_bin h1 h2 (z_o R cc F _) (z_o R cc F _)
    · exact sf_bad
  · unfold cList1
    split
    · split
      · rename_i e
        subst e
        split
        · rename_i h
          rw [Bool.and_eq_true, Bool.and_eq_true, Bool.not_eq_true'] at h
          obtain ⟨b1, b2⟩ := F.bi h.1.1
          split
          · rename_i y b c hz
            obtain ⟨py, pz, e, rfl⟩ := zip2_of hz
            subst e
            split
            · rename_i h2
              simp only [Bool.and_eq_true, Bool.not_eq_true'] at h2
              obtain ⟨⟨c1, c2⟩, c3⟩ := h2
              obtain ⟨d1, d2⟩ := F.bi c1
              exact sf_lzip cc.calm b1 b2 d1 d2 (z_o R cc F _) (z_o R cc F _) c2 c3
            · exact sf_bad
          · exact sf_list b1 b2 (z_o R cc F _) h.1.2
        · exact sf_bad
      split
      · rename_i e
        subst e
        split
        · rename_i h
          rw [Bool.and_eq_true, Bool.and_eq_true, Bool.not_eq_true'] at h
          obtain ⟨b1, b2⟩ := F.bi h.1.1
          exact sf_dicC b1 b2 (z_o R cc F _) h.1.2
        · exact sf_bad
      · exact sf_bad
    · exact sf_bad
  · unfold cSubF
    split
    · rename_i lo hi st p1
      split
      · rename_i h
        simp only [Bool.and_eq_true] at h
        obtain ⟨⟨h1, h2⟩, h3⟩ := h
        have e1 := isNo_eq h1
        have e2 := isNo_eq h2
        subst e1 e2
        obtain ⟨k, q1, q2, rfl⟩ := isM1_eq h3
        exact sf_revL (z_o R cc F _)
      · exact sf_bad
    · exact sf_bad
  · exact sf_bad
theorem z_fs (R : SndR r) (cc : Cc X Wx) (F : FX ctx X g n) (e : Expr) (y : Str) (py spos : Pos) (i : Nat) (h : swB ctx.sc y py e = true) (hy : X.N[i]? = some y) : PSet X y py e spos i (tfr X.K Wx g (stepF r ctx e)) := by
  cases e with
  | ListComp a b c d => exact (z_lc R cc F a b c d).2 y py spos i h hy
  | DictComp a a' b c d => exact (z_dc R cc F a a' b c d).2 y py spos i h hy
  | _ => cases h
/-- tests -/
theorem z_boolT (R : SndR r) (cc : Cc X Wx) (F : FX ctx X g n) (op : BoolOp) (p : Pos) : ∀ vs : List Expr, PW X (.BoolOp op vs p) (ttx X.K Wx g (cBoolT r ctx op vs))
  | [] => ⟨fun w pins s σ H Q I ⟨W, s', rr, q⟩ => q.elim⟩
  | [a] => by
    cases op with
    | And => exact sw_and1 (R.t cc F a)
    | Or => exact sw_or1 (R.t cc F a)
  | a :: b :: rest => by
    cases op with
    | And => exact sw_and (R.t cc F a) (z_boolT R cc F .And p (b :: rest))
    | Or => exact sw_or (R.t cc F a) (z_boolT R cc F .Or p (b :: rest))
theorem z_t (R : SndR r) (cc : Cc X Wx) (F : FX ctx X g n) (e : Expr) : PT X e (ttx X.K Wx g (stepT r ctx e)) := by
  unfold stepT
  split
  · exact (z_boolT R cc F _ _ _).pt
  · split
    · exact st_not (R.t cc F _)
    · exact st_bad
  · exact (z_cmp R cc F _ _ _ _).2
  · exact st_bad
  · rename_i h1 h2 h3 h4
    refine st_val (R.e cc F _) fun whole => ?_
    cases e with
    | BoolOp a b c => exact (h1 _ _ _ rfl).elim
    | UnaryOp a b c => exact (h2 _ _ _ rfl).elim
    | Compare a b c d => exact (h3 _ _ _ _ rfl).elim
    | IfExp a b c d => exact (h4 _ _ _ _ rfl).elim
    | _ => rfl
/-- rows -/
theorem z_a (R : SndR r) (cc : Cc X Wx) (F : FX ctx X g n) (es : List Expr) : PA X es (tax X.K Wx g (stepA r ctx es)) := by
  cases es with
  | nil => exact sa_nil
  | cons e es =>
    cases e with
    | Starred a p => exact sa_star (R.e cc F _) (R.a cc F _)
    | _ => exact sa_cons (R.e cc F _) (R.a cc F _) (starEach_of rfl)
theorem z_k (R : SndR r) (cc : Cc X Wx) (F : FX ctx X g n) (ks : List Keyword) : PK X ks (tax X.K Wx g (stepK r ctx ks)) := by
  unfold stepK
  split
  · exact sk_nil
  · exact sk_cons (R.e cc F _) (R.k cc F _)
theorem z_kl (R : SndR r) {s s' : S} {l : List D} (ks : List Keyword) (h : stepK r ctx ks g s = .ok l s') : l.length = ks.length := by
  unfold stepK at h
  split at h
  · cases h; rfl
  · rename_i a e p ks
    have h : Cy.aCons (r.e ctx e) (r.k ctx ks) g s = .ok l s' := h
    unfold Cy.aCons at h
    cases q : r.e ctx e g s with
    | bad => rw [q] at h; cases h
    | exc x s1 => rw [q] at h; cases h
    | ok d s1 =>
      rw [q] at h
      have h : (r.k ctx ks g s1).bind (fun xs s => .ok (d :: xs) s) = .ok l s' := h
      cases q2 : r.k ctx ks g s1 with
      | bad => rw [q2] at h; cases h
      | exc x s2 => rw [q2] at h; cases h
      | ok ds s2 =>
        rw [q2] at h
        cases h
        rw [List.length_cons, R.kl ks q2, List.length_cons]
theorem tup_of {e : Expr} (h : isTup e = true) : ∃ a b c, e = .Tuple a b c := by
  cases e with
  | Tuple a b c => exact ⟨a, b, c, rfl⟩
  | _ => cases h
/-- what is walked -/
theorem z_i (R : SndR r) (cc : Cc X Wx) (F : FX ctx X g n) (tg e : Expr) : PI X tg e (tix X.K Wx g (stepI r ctx tg e)) := by
  unfold stepI
  split
  · rename_i f args kws p
    split
    · rename_i x q
      split
      · rename_i o ho
        split
        · rename_i h
          rw [Bool.and_eq_true, Bool.and_eq_true] at h
          obtain ⟨b1, b2⟩ := F.bi h.1.1
          have e := isEmpty_eq h.1.2
          subst e
          have hs := h.2
          unfold oi? at ho
          split at ho
          · rename_i ex; subst ex
            split at ho
            · rename_i hl
              cases ho
              match args, hl, hs with
              | [a], _, hs => exact si_rng1 b1 b2 (R.a cc F _) (by simpa using hs)
            split at ho
            · rename_i hl
              cases ho
              match args, hl, hs with
              | [a, b], _, hs =>
                have hs : isStar a = false ∧ isStar b = false := by simpa using hs
                exact si_rng2 b1 b2 (R.a cc F _) hs.1 hs.2
            split at ho
            · rename_i hl
              cases ho
              match args, hl, hs with
              | [a, b, c], _, hs =>
                have hs : isStar a = false ∧ isStar b = false ∧ isStar c = false := by simpa using hs
                exact si_rngD b1 b2 (R.a cc F _) hs.1 hs.2.1 hs.2.2
            · cases ho
          split at ho
          · rename_i ex; subst ex
            split at ho
            · rename_i hl
              cases ho
              rw [Bool.and_eq_true, decide_eq_true_eq] at hl
              obtain ⟨t1, t2, t3, rfl⟩ := tup_of hl.2
              match args, hl.1, hs with
              | [a], _, hs => exact si_enum b1 b2 (R.a cc F _) (by simpa using hs)
            · cases ho
          split at ho
          · rename_i ex; subst ex
            split at ho
            · rename_i hl
              cases ho
              rw [Bool.and_eq_true, decide_eq_true_eq] at hl
              obtain ⟨t1, t2, t3, rfl⟩ := tup_of hl.2
              match args, hl.1, hs with
              | [a, b], _, hs =>
                have hs : isStar a = false ∧ isStar b = false := by simpa using hs
                exact si_zip b1 b2 (R.a cc F _) hs.1 hs.2
            · cases ho
          · cases ho
        · exact si_bad
      · exact si_val (R.e cc F _)
    · exact si_val (R.e cc F _)
  · exact si_val (R.e cc F _)
/-- targets -/
theorem z_gs (R : SndR r) (K : Fg) : ∀ {es : List Expr} {l : List (Tg × List Nat)}, es.mapM (r.g ctx) = some l → es.all (fun e => !isStar e) = true → ∃ t, TgsOk K (l.map (·.2)).flatten (l.map (·.1)) t ∧ ∀ (X : Cx) (Wx : WX) (g : G) (n : Nat), X.K = K → Cc X Wx → FX ctx X g n → PGs X es t
  | [], l, h, _ => by cases h; exact ⟨gNil, sgs_nil, fun X Wx g n _ _ _ => pgs_nil⟩
  | e :: es, l, h, hs => by
    rw [List.all_cons, Bool.and_eq_true, Bool.not_eq_true'] at hs
    rw [List.mapM_cons] at h
    cases q : r.g ctx e with
    | none => rw [q] at h; cases h
    | some tj =>
      rw [q] at h
      cases q2 : es.mapM (r.g ctx) with
      | none => rw [q2] at h; cases h
      | some l' =>
        rw [q2] at h
        cases h
        obtain ⟨tg, js⟩ := tj
        obtain ⟨t, h1, h2⟩ := R.g K q
        obtain ⟨ts, h3, h4⟩ := z_gs R K q2 hs.2
        exact ⟨gCons t ts, sgs_cons h1 h3, fun X Wx g n eK cc F => pgs_cons (h2 X Wx g n eK cc F) (h4 X Wx g n eK cc F) (assignEach_of hs.1)⟩
theorem each_facts {env : Env} : ∀ {es : List Expr}, es.all (fun e => !isStar e) = true → (assignEach es env).length = es.length ∧ (assignEach es env).findIdx? (·.1) = none
  | [], _ => ⟨rfl, rfl⟩
  | e :: es, h => by
    rw [List.all_cons, Bool.and_eq_true, Bool.not_eq_true'] at h
    obtain ⟨h1, h2⟩ := each_facts (env := env) h.2
    have : assignEach (e :: es) env = (false, assign e env) :: assignEach es env := by
      have := h.1
      cases e <;> first | rfl | cases this
    rw [this, List.length_cons, h1]
    refine ⟨rfl, ?_⟩
    rw [List.findIdx?_cons]
    simp [h2]
theorem z_g (R : SndR r) (K : Fg) {e : Expr} {tg : Tg} {js : List Nat} (h : stepG r ctx e = some (tg, js)) : ∃ t, TgOk K js tg t ∧ ∀ (X : Cx) (Wx : WX) (g : G) (n : Nat), X.K = K → Cc X Wx → FX ctx X g n → PG X e t := by
  unfold stepG at h
  split at h
  · rename_i x p
    cases q : sto? ctx x with
    | none => rw [q] at h; cases h
    | some i =>
      rw [q] at h
      cases h
      refine ⟨_, sg_name, fun X Wx g n eK cc F => ?_⟩
      obtain ⟨h1, h2, h3⟩ := F.sto q
      exact pg_name cc.nd h1 h2 h3
  · rename_i es k p
    split at h
    · rename_i hs
      cases q : es.mapM (r.g ctx) with
      | none => rw [q] at h; cases h
      | some l =>
        rw [q] at h
        cases h
        obtain ⟨t, h1, h2⟩ := z_gs R K q hs
        have hl : (l.map (·.1)).length = es.length := by
          rw [List.length_map]
          clear h1 h2 hs
          induction es generalizing l with
          | nil => cases q; rfl
          | cons e es ih =>
            rw [List.mapM_cons] at q
            cases q1 : r.g ctx e with
            | none => rw [q1] at q; cases q
            | some x =>
              rw [q1] at q
              cases q2 : es.mapM (r.g ctx) with
              | none => rw [q2] at q; cases q
              | some l' => rw [q2] at q; cases q; exact congrArg (· + 1) (ih l' q2)
        refine ⟨gAny K es.length t, sg_tup h1 hl, fun X Wx g n eK cc F => ?_⟩
        obtain ⟨e1, e2⟩ := each_facts (env := X.env) hs
        subst eK
        exact pg_any cc.calm (h2 X Wx g n rfl cc F) e1 e2
    · cases h
  · cases h
end
end Cy

set_option Elab.async false
set_option linter.all false
set_option maxRecDepth 100000
/-! Cy: soundness of statements, of the whole. -/
namespace Cy
open L2 PySem PySem.Spec PyProof.Rows

section
variable {r : Rc sh} {ctx : Ctx} {X : Cx} {Wx : WX} {g : G} {n : Nat}
def swpS (bk : ScopeKind) (lk : Str → Option NameKind) (ts vs : List Expr) : Sem (Option (List Str)) := do
  if (!(ts.length == 2 || ts.length == 3) || vs.length != ts.length || bk != .function) = true then return none
  if vs.any isStar = true then return none
  if ((ts.filterMap (nmAt lk (lineOf ts))).length != ts.length || (ts.filterMap (nmAt lk (lineOf ts))).eraseDups.length != (ts.filterMap (nmAt lk (lineOf ts))).length) = true then return none
  if vs.all (foldedForSure 8) = true then return none
  if vs.all (constantsAlone 8) = true then unsupported "assign.tuple-of-constant-expressions:order-of-the-stores"
  return some (ts.filterMap (nmAt lk (lineOf ts)))
theorem swpS_eq (ts vs : List Expr) (k k2 : Nat) (p p2 : Pos) (env : Env) : swappedStores [.Tuple ts k p] (.Tuple vs k2 p2) env = swpS env.blockKind env.kindOf ts vs := by
  have e1 : ∀ x : Expr, (match x with | .Starred .. => true | _ => false) = isStar x := fun x => by cases x <;> rfl
  rfl
theorem swp_ok (F : FX ctx X g n) {ts vs : List Expr} {o : Option (List Str)} (h : swp ctx.sc ts vs = some o) (k k2 : Nat) (p p2 : Pos) : swappedStores [.Tuple ts k p] (.Tuple vs k2 p2) X.env = pure o := by
  have hb : X.env.blockKind = ctx.sc.kind := by unfold Env.blockKind; rw [F.sc, F.kd]; rfl
  have hk : X.env.kindOf = lkS ctx.sc := funext fun y => by unfold Env.kindOf lkS; rw [F.sc]
  rw [swpS_eq, hb, hk]
  unfold swp at h
  unfold swpS
  split at h
  · rename_i c; cases h; rw [if_pos c]
  rename_i c; rw [if_neg c]
  split at h
  · rename_i c; cases h; rw [if_pos c]
  rename_i c; rw [if_neg c]
  split at h
  · rename_i c; cases h; rw [if_pos c]
  rename_i c; rw [if_neg c]
  split at h
  · rename_i c; cases h; rw [if_pos c]
  rename_i c; rw [if_neg c]
  split at h
  · cases h
  rename_i c; rw [if_neg c]
  cases h
  rfl
theorem swp_names {ts vs : List Expr} {l : List Str} (h : swp ctx.sc ts vs = some (some l)) : l = ts.filterMap (nmAt (lkS ctx.sc) (lineOf ts)) ∧ l.length = ts.length ∧ vs.any isStar = false := by
  unfold swp at h
  split at h
  · cases h
  split at h
  · cases h
  rename_i cs
  split at h
  · cases h
  rename_i c
  split at h
  · cases h
  split at h
  · cases h
  cases h
  rw [Bool.or_eq_true, not_or] at c
  have c1 := c.1
  simp only [bne_iff_ne, ne_eq, Decidable.not_not] at c1
  exact ⟨rfl, c1, by simpa using cs⟩
theorem nm_some {lk : Str → Option NameKind} {l : Nat} {x b : Str} {p : Pos} (h : nmAt lk l (.Name x p) = some b) : b = x := by
  have h : (if (lk x == some .local && p.line == l) = true then some x else none) = some b := h
  split at h
  · cases h; rfl
  · cases h
theorem names_of {lk : Str → Option NameKind} {l : Nat} : ∀ {xs : List (Str × Pos)}, ((xs.map fun q => Expr.Name q.1 q.2).filterMap (nmAt lk l)).length = xs.length → (xs.map fun q => Expr.Name q.1 q.2).filterMap (nmAt lk l) = xs.map (·.1)
  | [], _ => rfl
  | q :: xs, h => by
    rw [List.map_cons, List.filterMap_cons] at h ⊢
    have le : ((xs.map fun q => Expr.Name q.1 q.2).filterMap (nmAt lk l)).length ≤ xs.length := by
      have := List.length_filterMap_le (nmAt lk l) (xs.map fun q => Expr.Name q.1 q.2)
      rw [List.length_map] at this
      exact this
    cases e : nmAt lk l (.Name q.1 q.2) with
    | none => rw [e] at h; simp only [List.length_cons] at h; omega
    | some b =>
      rw [e] at h
      simp only [List.length_cons] at h
      rw [nm_some e, List.map_cons, names_of (by omega)]
theorem swp2 {x y : Str} {px py : Pos} {vs : List Expr} {l : List Str} (h : swp ctx.sc [.Name x px, .Name y py] vs = some (some l)) : l = [x, y] := by
  obtain ⟨e, hl, _⟩ := swp_names h
  subst e
  exact names_of (xs := [(x, px), (y, py)]) hl
theorem swp3 {x y z : Str} {px py pz : Pos} {vs : List Expr} {l : List Str} (h : swp ctx.sc [.Name x px, .Name y py, .Name z pz] vs = some (some l)) : l = [x, y, z] := by
  obtain ⟨e, hl, _⟩ := swp_names h
  subst e
  exact names_of (xs := [(x, px), (y, py), (z, pz)]) hl
theorem sws_name {e : Expr} {y : Str} {py : Pos} {env : Env} : swappedStores [.Name y py] e env = pure none := by rfl
theorem sws_sub {e k o : Expr} {p : Pos} {env : Env} : swappedStores [.Subscript o k p] e env = pure none := by rfl
theorem sws_tup {ts : List Expr} {k : Nat} {p : Pos} {e : Expr} {env : Env} (h : isTup e = false) : swappedStores [.Tuple ts k p] e env = pure none := by
  cases e <;> first | rfl | cases h
theorem swaps_tup {ts : List Expr} {k : Nat} {p : Pos} {e : Expr} {l : Nat} {env : Env} : swapsWithSole [.Tuple ts k p] e l env = pure false := by
  cases e <;> rfl
theorem ref_run {F : Fg} {c : Ex} {σ : St} {H : Hp} {Q : VK} (h : tev F Wx g (refE c) σ H Q) : tfr F Wx g c σ H Q := by
  obtain ⟨W, s, r, p⟩ := h
  refine ⟨W, s, r, ?_⟩
  have p : Post F Wx (Den F) W s σ H Q ((c g s).bind fun d s => match d with
    | .dic l => if noRK 0 l then .ok (.ref s.h.length) { s with h := s.h ++ [.dic l] } else .bad
    | .lst l => if noRL 0 l then .ok (.ref s.h.length) { s with h := s.h ++ [.lst l] } else .bad
    | .dit l => if noRT 0 l then .ok (.ref s.h.length) { s with h := s.h ++ [.dit l] } else .bad
    | _ => .bad) := p
  cases q : c g s with
  | bad => rw [q] at p; exact p
  | exc x s1 => rw [q] at p; exact p
  | ok d s1 =>
    rw [q] at p
    intro W1 H1 a n e1 r1 A
    have den : ∀ ob : Ob, d = obD ob → noRO 0 ob = true → Rel F (W1.sh s1.h.length a) { s1 with h := s1.h ++ [ob] } σ H1 ∧ Ext W s σ H (W1.sh s1.h.length a) { s1 with h := s1.h ++ [ob] } σ H1 ∧ Den F (W1.sh s1.h.length a) H1 (.ref a) (.ref s1.h.length) := fun ob e nb => by
      subst e
      obtain ⟨x1, x2⟩ := share r1 A nb
      exact ⟨x1, x2 n e1, .ref (by show (if s1.h.length = s1.h.length then some a else _) = _; rw [if_pos rfl])⟩
    cases d with
    | dic l =>
      cases z : noRK 0 l with
      | false => simp only [Res.bind, z, Bool.false_eq_true, if_false] at p; exact p.elim
      | true =>
        simp only [Res.bind, z, if_true] at p
        obtain ⟨x1, x2, x3⟩ := den (.dic l) rfl z
        exact p _ _ _ x2 x1 x3
    | lst l =>
      cases z : noRL 0 l with
      | false => simp only [Res.bind, z, Bool.false_eq_true, if_false] at p; exact p.elim
      | true =>
        simp only [Res.bind, z, if_true] at p
        obtain ⟨x1, x2, x3⟩ := den (.lst l) rfl z
        exact p _ _ _ x2 x1 x3
    | dit l =>
      cases z : noRT 0 l with
      | false => simp only [Res.bind, z, Bool.false_eq_true, if_false] at p; exact p.elim
      | true =>
        simp only [Res.bind, z, if_true] at p
        obtain ⟨x1, x2, x3⟩ := den (.dit l) rfl z
        exact p _ _ _ x2 x1 x3
    | _ => exact A.ob.elim
theorem ss_refC {y : Str} {py spos : Pos} {i : Nat} {e : Expr} {c : Ex} (h : PSet X y py e spos i (tfr X.K Wx g c)) : PS X (.Assign [.Name y py] e spos) (tst X.K Wx g (Cy.asg (Cy.gName i) (refE c))) := PS.mono h fun D σ H q => ref_run (asg_run sg_name q)
/-- a made thing that a name takes, on its line or not -/
theorem z_pset (R : SndR r) (cc : Cc X Wx) (F : FX ctx X g n) {y : Str} {i : Nat} (hs : sto? ctx y = some i) (e : Expr) (py spos : Pos) : PSet X y py e spos i (tfr X.K Wx g (r.f ctx e)) ∨ (∃ a b c d, e = .SetComp a b c d) := by
  obtain ⟨h1, h2, h3⟩ := F.sto hs
  rcases sw_eq F e y py spos.line with z | z
  · cases hw : swB ctx.sc y py e with
    | true => exact .inl (R.fs cc F e y py spos i hw h1)
    | false => exact .inl (ps_plain (R.f cc F e) (pg_name cc.nd h1 h2 h3) (by rw [z, hw]) sws_name)
  · exact .inr z
theorem ps_nev {st : Stmt} : PS X st (tst X.K Wx g Cy.never) := ss_never
theorem d0_of {e : Expr} (h : isD0 e = true) : ∃ p, e = .Dict [] [] p := by
  cases e with
  | Dict ks vs p =>
    have h : (ks.isEmpty && vs.isEmpty) = true := h
    rw [Bool.and_eq_true] at h
    exact ⟨p, by rw [isEmpty_eq h.1, isEmpty_eq h.2]⟩
  | _ => cases h
theorem z_fr (R : SndR r) (cc : Cc X Wx) (F : FX ctx X g n) (x : Str) (a : Expr) : PEb X Wx g a (ownN ctx x) (cFr r ctx x a) := by
  unfold PEb cFr
  cases ownN ctx x with
  | true =>
    simp only [if_true]
    split
    · rename_i h
      rw [Bool.and_eq_true] at h
      obtain ⟨p, rfl⟩ := d0_of h.1
      exact sf_newT
    · exact R.f cc F a
  | false =>
    simp only [Bool.false_eq_true, if_false]
    split
    · exact se_ref (R.f cc F a)
    · exact R.e cc F a
theorem z_set (R : SndR r) (cc : Cc X Wx) (F : FX ctx X g n) {y : Str} {i : Nat} (hs : sto? ctx y = some i) (e : Expr) (py spos : Pos) : PS X (.Assign [.Name y py] e spos) (tst X.K Wx g (cSet r ctx y i e)) := by
  obtain ⟨h1, h2, h3⟩ := F.sto hs
  have pg : PG X (.Name y py) (L2.gName i) := pg_name cc.nd h1 h2 h3
  unfold cSet
  simp only []
  split
  · exact ss_never
  · rename_i hset
    have ps : PSet X y py e spos i (tfr X.K Wx g (r.f ctx e)) := (z_pset R cc F hs e py spos).resolve_right fun ⟨a, b, c, d, z⟩ => by subst z; exact hset rfl
    have pick : ∀ b : Bool, (b = true → isD0 e = true) → PSet X y py e spos i (tfr X.K Wx g (if b then (sh.newT : sh.E) else r.f ctx e)) := fun b hb => by
      cases b with
      | true =>
        obtain ⟨p, rfl⟩ := d0_of (hb rfl)
        exact ps_plain sf_newT pg rfl sws_name
      | false => exact ps
    have ps2 := pick (isD0 e && ctx.tks.contains (nmOf y)) fun h => by
      rw [Bool.and_eq_true] at h
      exact h.1
    split
    · exact ss_takeC ps2
    · split
      · exact ss_refC ps2
      · split
        · exact ss_asgC ps
        · rename_i hc
          exact ss_asg pg sg_name (R.e cc F e) (by simpa using hc) rfl sws_name
theorem z_tup (R : SndR r) (cc : Cc X Wx) (F : FX ctx X g n) (ts : List Expr) (k : Nat) (tp : Pos) (e : Expr) (spos : Pos) : PS X (.Assign [.Tuple ts k tp] e spos) (tst X.K Wx g (cTup r ctx ts (.Tuple ts k tp) e)) := by
  unfold cTup
  split
  · exact ss_never
  · rename_i gg js hg
    obtain ⟨t, h1, h2⟩ := R.g X.K hg
    have pg := h2 X Wx g n rfl cc F
    have asg : swappedStores [.Tuple ts k tp] e X.env = pure none → PS X (.Assign [.Tuple ts k tp] e spos) (tst X.K Wx g (Cy.asg gg (r.e ctx e))) := fun hw => by
      refine (ps_asg (R.e cc F e) pg swaps_tup hw (assignEach_of rfl)).mono fun D σ H q => asg_run h1 q
    split
    · rename_i vs k2 p2
      split
      · exact ss_never
      · rename_i hw
        exact asg (swp_ok F hw _ _ _ _)
      · rename_i l hw
        have hsw := swp_ok F hw k k2 tp p2
        split
        · rename_i x px y py a b
          split
          · rename_i i j hi hj
            split
            · rename_i hc
              simp only [Bool.and_eq_true, bne_iff_ne, ne_eq] at hc
              obtain ⟨⟨c1, c2⟩, c3⟩ := hc
              rw [swp2 hw] at hsw
              obtain ⟨a1, _, _⟩ := F.sto hi
              obtain ⟨b1, _, _⟩ := F.sto hj
              obtain ⟨_, _, hst⟩ := swp_names hw
              have hst : isStar a = false ∧ isStar b = false := by simpa using hst
              exact ss_par2 cc a1 b1 c3 (by rw [F.sc]; exact eq_of_beq c1) (by rw [F.sc]; exact eq_of_beq c2) (z_fr R cc F x a) (z_fr R cc F y b) hst.1 hst.2 hsw
            · exact ss_never
          · exact ss_never
        · rename_i x px y py z pz a b c
          split
          · rename_i i j l hi hj hl
            split
            · rename_i hc
              simp only [Bool.and_eq_true, bne_iff_ne, ne_eq] at hc
              obtain ⟨⟨⟨⟨⟨c1, c2⟩, c3⟩, c4⟩, c5⟩, c6⟩ := hc
              rw [swp3 hw] at hsw
              obtain ⟨a1, _, _⟩ := F.sto hi
              obtain ⟨b1, _, _⟩ := F.sto hj
              obtain ⟨d1, _, _⟩ := F.sto hl
              obtain ⟨_, _, hst⟩ := swp_names hw
              have hst : isStar a = false ∧ isStar b = false ∧ isStar c = false := by simpa using hst
              exact ss_par3 cc a1 b1 d1 c4 c5 c6 (by rw [F.sc]; exact eq_of_beq c1) (by rw [F.sc]; exact eq_of_beq c2) (by rw [F.sc]; exact eq_of_beq c3) (z_fr R cc F x a) (z_fr R cc F y b) (z_fr R cc F z c) hst.1 hst.2.1 hst.2.2 hsw
            · exact ss_never
          · exact ss_never
        · exact ss_never
    · rename_i hne
      exact asg (sws_tup (by cases e <;> first | rfl | exact (hne _ _ _ rfl).elim))
theorem z_assign (R : SndR r) (cc : Cc X Wx) (F : FX ctx X g n) (ts : List Expr) (e : Expr) (spos : Pos) : PS X (.Assign ts e spos) (tst X.K Wx g (cAssign r ctx ts e)) := by
  unfold cAssign
  split
  · split
    · rename_i i hi
      exact z_set R cc F hi e _ _
    · exact ss_never
  · exact z_tup R cc F _ _ _ _ _
  · split
    · rename_i i hi
      obtain ⟨h1, h2, h3, h4⟩ := F.loc hi
      split
      · exact ss_never
      · rename_i hc
        rw [Bool.or_eq_true, not_or, Bool.not_eq_true, Bool.not_eq_true] at hc
        exact ss_put cc h1 h2 h3 h4 (R.e cc F _) (R.e cc F _) hc.1 hc.2 sws_sub
    · exact ss_never
  · exact ss_never
theorem doc_of {e : Expr} (h : isDoc e = true) : ∃ x j p, e = .Constant (.str x) j p := by
  cases e with
  | Constant c j p =>
    cases c with
    | str x => exact ⟨x, j, p, rfl⟩
    | _ => cases h
  | _ => cases h
/-- statements -/
theorem z_s (R : SndR r) (cc : Cc X Wx) (F : FX ctx X g n) (s : Stmt) : PS X s (tst X.K Wx g (stepS r ctx s)) := by
  unfold stepS
  split
  · split
    · split
      · exact ss_ret (se_ref (R.f cc F _))
      · exact ss_ret (R.e cc F _)
    · exact ss_retN
  · exact z_assign R cc F _ _ _
  · split
    · split
      · rename_i gg js hg
        split
        · exact ss_never
        · rename_i hs
          obtain ⟨t, h1, h2⟩ := R.g X.K hg
          exact ss_for cc (R.i cc F _ _) (h2 X Wx g n rfl cc F) h1 (R.b cc F _) (by simpa using hs)
      · exact ss_never
    · exact ss_never
  · unfold cAug
    split
    · split
      · rename_i i hi
        obtain ⟨h1, h2, h3⟩ := F.sto hi
        split
        · exact ss_augAdd cc h1 h2 h3 (R.e cc F _)
        · exact ss_augSub cc h1 h2 h3 (R.e cc F _)
        · exact ss_never
      · exact ss_never
    · exact ss_never
  · split
    · exact ss_while cc (R.t cc F _) (R.b cc F _)
    · exact ss_never
  · exact ss_if (R.t cc F _) (R.b cc F _) (R.b cc F _)
  · split
    · rename_i h
      obtain ⟨x, j, p, rfl⟩ := doc_of h
      exact ps_doc.mono fun D σ H ⟨W, s, rl, q⟩ => q W σ H Ext.refl rl
    · split
      · exact ss_never
      · rename_i hc
        exact ss_expr (R.e cc F _) (by simpa using hc)
  · exact ss_pass
  · exact ss_break
  · exact ss_continue
  · exact ss_never
theorem z_b (R : SndR r) (cc : Cc X Wx) (F : FX ctx X g n) (ss : List Stmt) : PSs X ss (tst X.K Wx g (stepB r ctx ss)) := by
  unfold stepB
  split
  · exact ss_nil
  · split
    · exact ss_cons (R.s cc F _) ss_nil
    · exact ss_one (R.s cc F _)
  · exact ss_cons (R.s cc F _) (R.b cc F _)
end
theorem snd_step {r : Rc sh} (R : SndR r) : SndR (stepR r) where
  e := fun cc F e => z_e R cc F e
  f := fun cc F e => z_f R cc F e
  fs := fun cc F e y py spos i h hy => z_fs R cc F e y py spos i h hy
  t := fun cc F e => z_t R cc F e
  a := fun cc F es => z_a R cc F es
  k := fun cc F ks => z_k R cc F ks
  kl := fun ks h => z_kl R ks h
  i := fun cc F tg e => z_i R cc F tg e
  g := fun K _ _ _ h => z_g R K h
  s := fun cc F s => z_s R cc F s
  b := fun cc F ss => z_b R cc F ss
theorem snd_zero : SndR (rc0 sh) where
  e := fun _ _ _ => se_bad
  f := fun _ _ _ => sf_bad
  fs := fun _ _ _ _ _ _ _ _ _ => ⟨fun _ _ _ _ _ _ ⟨_, _, _, q⟩ => q.elim⟩
  t := fun _ _ _ => st_bad
  a := fun _ _ _ => sa_bad
  k := fun _ _ _ => ⟨fun _ _ _ _ _ _ _ ⟨_, _, _, q⟩ => q.elim⟩
  kl := fun _ h => by cases h
  i := fun _ _ _ _ => si_bad
  g := fun _ _ _ _ h => by cases h
  s := fun _ _ _ => ss_never
  b := fun _ _ ss => ⟨fun _ _ _ _ _ _ ⟨_, _, _, q⟩ => q.elim⟩
/-- THE THEOREM: what is made of a text does what it does -/
theorem snd_all : ∀ k : Nat, SndR (rcN sh k)
  | 0 => snd_zero
  | k + 1 => snd_step (snd_all k)
end Cy

set_option Elab.async false
set_option linter.all false
set_option maxRecDepth 100000
/-! Cy: a law's own call, from what Cy's run of it says. -/
namespace Cy
open L2 PySem PySem.Spec PyProof.Rows

/-! ### the call of a def on the script -/
section
variable {P : Program} {w : World} {K : PySem.W.Frag} {mg mb : Str → Option Value} {n : Nat} {fa sa : Addr} {fd : FuncData} {x : Str} {sp : Sp} {t : Shared} {vs : List Value} {ns : List Int}
/-- from one abstract heap: at most the script is tracked -/
theorem call_at {H : Hp} (kin : K.In t.heap) (gl : t.heap.Ns mainGlobals mg) (bl : t.heap.Ns builtinsNs mb) (bb : ∀ y : Str, y ≠ "__name__" → mb y = bootBuiltins y) (nl : t.heap.NoLimit) (gn : t.gens = #[])
    (at_ : t.heap.get? sa = some { cls := .type "list", data := .seq vs.toArray }) (rm : Room n callerA) (F : ∀ base : Heap, K.In base → base.Ns mainGlobals mg → FnG P w K mg base (L2.CX P w) n fa fd [x] sp)
    (bd : BindsTo t fd ⟨[.ref sa], []⟩ [(x, .ref sa)]) (ok : HOk P w H t.heap) (lone : ∀ b, H b ≠ none → b = sa) (out : H sa ≠ none → K.lookup sa = none) (frozen : Only H) (hsp : sp [.ref sa] H (fun v _ => v = .bl true) fun _ _ _ => False) :
    codeAny (model P w) callerA (.call (.ref fa) ⟨[.ref sa], []⟩) (fun r t2 => r = .ok (.ret (.bool true)) ∧ OldK t.heap t2.heap ∧ t2.os = t.os ∧ AllBare t2.gens) t := by
  have apart : ∀ {b : Addr} {ob : Obj}, t.heap.get? b = some ob → (b = sa → K.lookup sa ≠ none ∨ ∃ es ep, ob.data = .dict es ep) → H b = none := fun {b ob} e why => by
    cases q : H b with
    | none => rfl
    | some u =>
      have hb := lone b (by rw [q]; exact Option.some_ne_none _)
      rcases why hb with z | ⟨es, ep, z⟩
      · exact absurd (out (by rw [← hb, q]; exact Option.some_ne_none _)) z
      · subst hb
        rw [at_] at e
        cases e
        exact nomatch z
  have names : ∀ {b : Addr} {m : Str → Option Value}, t.heap.Ns b m → (hidT t.heap H).Ns b m := fun {b m} ⟨ob, es, ep, e, dd, rest⟩ => ⟨ob, es, ep, hidT_get e (apart e fun _ => .inr ⟨es, ep, dd⟩), dd, rest⟩
  have kb : K.In (hidT t.heap H) := fun b ob e => hidT_get (kin b ob e) (apart (kin b ob e) fun z => .inl (by rw [← z, e]; exact Option.some_ne_none _))
  have md : Mod K mg (hidT t.heap H) := ⟨kb, names gl, ⟨mb, names bl, bb⟩, let ⟨m, h1, h2⟩ := nl; ⟨m, names h1, h2⟩⟩
  have en : Env0 P w K mg (hidT t.heap H) callerA [] t H := ⟨rfl, md, fun _ _ e => of_hidT e, Nat.le_of_eq (hidT_size _ _), trivial, (fun b hb => by cases hb), ok, .of_eq gn⟩
  refine codeAny_mono ((F _ kb (names gl)).go callerA [] t H ⟨[.ref sa], []⟩ [.ref sa] [.ref sa] _ _ rm rfl en bd (.cons rfl .nil) hsp) fun res t2 hres => ?_
  cases res with
  | error ex => obtain ⟨_, _, _, _, _, _, _, _, _, _, _, _, z⟩ := hres; exact z.elim
  | ok fl =>
    cases fl with
    | next => exact hres.elim
    | brk => exact hres.elim
    | cont => exact hres.elim
    | ret u =>
      obtain ⟨v, H2, os, bare, un, ok2, rv, q⟩ := hres
      have q : v = .bl true := q
      subst q
      obtain rfl : u = Value.bool true := rv
      refine ⟨rfl, OldK.of_keep fun b ob e => ?_, os, bare⟩
      rcases frozen b with z | ⟨o2, ys, z⟩
      · exact un.keep b ob e z (fun m => by cases m) (by simp)
      · have e1 := (ok b _ z).1
        have e2 := (ok2 b _ (un.frzs b o2 _ z)).1
        rw [e] at e1
        cases e1
        exact e2
theorem call_script (kin : K.In t.heap) (gl : t.heap.Ns mainGlobals mg) (bl : t.heap.Ns builtinsNs mb) (bb : ∀ y : Str, y ≠ "__name__" → mb y = bootBuiltins y) (nl : t.heap.NoLimit) (gn : t.gens = #[])
    (at_ : t.heap.get? sa = some { cls := .type "list", data := .seq vs.toArray }) (ivs : IntsAre vs ns) (len : ns.length ≤ sizeLine) (rm : Room n callerA) (F : ∀ base : Heap, K.In base → base.Ns mainGlobals mg → FnG P w K mg base (L2.CX P w) n fa fd [x] sp)
    (bd : BindsTo t fd ⟨[.ref sa], []⟩ [(x, .ref sa)]) (hsp : ∀ H : Hp, Only H → SqL K H sa (ns.map V.int) → sp [.ref sa] H (fun v _ => v = .bl true) fun _ _ _ => False) :
    codeAny (model P w) callerA (.call (.ref fa) ⟨[.ref sa], []⟩) (fun r t2 => r = .ok (.ret (.bool true)) ∧ OldK t.heap t2.heap ∧ t2.os = t.os ∧ AllBare t2.gens) t := by
  have rv : Vals (ns.map V.int) vs := vals_ints ivs
  cases hk : K.lookup sa with
  | some ob =>
    have same := (kin sa ob hk).symm.trans at_
    cases same
    have none' : Only fun _ => none := fun _ => .inl rfl
    exact call_at (H := fun _ => none) kin gl bl bb nl gn at_ rm F bd (fun b u z => nomatch z) (fun b z => absurd rfl z) (fun z => absurd rfl z) none'
      (hsp _ none' (.inr ⟨_, vs.toArray, _, hk, rfl, rfl, rfl, by rw [List.size_toArray, ivs.length]; exact len, by simpa using rv⟩))
  | none =>
    obtain ⟨G, here, there⟩ : ∃ G : Hp, G sa = some (.frz { cls := .type "list", data := .seq vs.toArray } (.lst (ns.map V.int))) ∧ ∀ b, b ≠ sa → G b = none := ⟨fun b => if b = sa then _ else none, if_pos rfl, fun b hb => if_neg hb⟩
    have frozen : Only G := fun b => by
      by_cases hb : b = sa
      · exact .inr ⟨_, _, hb ▸ here⟩
      · exact .inl (there b hb)
    refine call_at kin gl bl bb nl gn at_ rm F bd (fun b u z => ?_) (fun b z => Classical.byContradiction fun hb => z (there b hb)) (fun _ => hk) frozen (hsp _ frozen (.inl (.inr ⟨_, here⟩)))
    by_cases hb : b = sa
    · subst hb
      rw [here] at z
      cases z
      exact ⟨at_, by rw [List.length_map]; exact len, vs, _, rv, at_⟩
    · rw [there b hb] at z
      cases z
end
/-- the goal that the head leaves -/
theorem walkG {l : PySem.W.OpenLaw} {m n : Nat} {q : Program} {loose : List Str} {XP : (Str → Option Value) → Heap → Prop} {YP : World → Heap → Prop} {d : DefRec} {x : Str} (hm : l.most = some m) (hm2 : m ≤ sizeLine) (hdf : d.params.defaults = []) (rm : Room n callerA)
    (F : ∀ (w : World) (mg : Str → Option Value) (fa : Addr) (h : Heap), YP w h → h.Ns mainGlobals mg → mg d.name = some (.ref fa) →
      ∃ (K : PySem.W.Frag) (fd : FuncData) (sp : Sp), K.In h ∧ (∀ (s : Shared) (u : Value), K.In s.heap → BindsTo s fd ⟨[u], []⟩ [(x, u)]) ∧
        (∀ (H : Hp) (a : Addr) (ns : List Int), ns.length ≤ m → (∀ k ∈ ns, Builtin.Int.intBits k ≤ 1048576) → Only H → SqL K H a (ns.map V.int) → sp [.ref a] H (fun v _ => v = .bl true) fun _ _ _ => False) ∧
        ∀ base : Heap, K.In base → base.Ns mainGlobals mg → FnG l.prog w K mg base (L2.CX l.prog w) n fa fd [x] sp) :
    PySem.W.WalkO q loose XP YP l.row.toRowW d [] (fun f vs => PySem.call f vs) := by
  refine Att.attach_callB hm hdf fun w s0 s1 mg mb fa ob pm cd doc sa vs ns G Y ho hd hcd hmg hobj ivs len bits gn => ?_
  obtain ⟨K, fd, sp, kin, bd, hsp, hF⟩ := F w mg fa _ Y G.T.g hmg
  exact call_script kin G.T.g G.T.b G.T.builtins G.T.nolimit gn hobj ivs (Nat.le_trans len hm2) rm hF (bd _ _ kin) fun H hO hS => hsp H sa ns len bits hO hS
end Cy

set_option Elab.async false
set_option linter.all false
set_option maxRecDepth 100000
/-! Cy: all defs of a text at once. -/
namespace Cy
open L2 PySem PySem.Spec PyProof.Rows

/-- of a def: its names (parameters first), those that own what they are given, those whose dicts are shared, those whose empty dicts have tuples as keys -/
structure Cf where
  N : List Nm
  own : List Nm := []
  shr : List Nm := []
  tks : List Nm := []
  rsh : Bool := false
structure Lib where
  fa : List He.Fa
  ds : List (He.DefD × Cf)
  k : Nat
abbrev Dc := He.DefD × Cf
def psN (d : Dc) : List Nm := d.1.params.args.map fun a => nmOf a.arg
def dvD : He.Dv → Option D
  | .non => some .non
  | .bl b => some (.bl b)
  | .int i => some (.int i)
  | .str x => some (.str (nmOf x))
  | _ => none
def dfD (d : Dc) : List D := d.1.dfl.map fun v => (dvD v).getD .non
def isGlo (x : Str) : He.Fa → Bool
  | .glo y => y == x
  | _ => false
def plainD (L : Lib) (d : Dc) : Bool :=
  d.1.at_.1 == d.1.name && d.1.at_.2.isNone && d.1.params.posonlyargs.isEmpty && d.1.params.kwonlyargs.isEmpty && d.1.params.vararg.isNone && d.1.params.kwarg.isNone && d.1.kwd.isEmpty && d.1.dfl.all (fun v => (dvD v).isSome) &&
  d.1.scope.kind == .function && !d.1.scope.isGenerator && !d.1.scope.isCoroutine && decide d.2.N.Nodup && d.2.N.take (psN d).length == psN d &&
  (psN d).all (fun x => match d.1.scope.names.lookup (st x) with | some .local => true | some .cell => true | _ => false) && d.1.scope.names.all (fun y => y.2 != .free) && L.fa.any (isGlo d.1.name)
def Lib.find (L : Lib) (x : Nm) : Option Dc := L.ds.find? fun d => decide (nmOf d.1.name = x) && plainD L d
def Lib.sig (L : Lib) (x : Nm) : Option (List Nm × List D) := (L.find x).map fun d => (psN d, dfD d)
def conF (x : Nm) : List He.Fa → Option D
  | [] => none
  | .int y i :: r => if nmOf y = x then some (.int i) else conF x r
  | .str y z :: r => if nmOf y = x then some (.str (nmOf z)) else conF x r
  | _ :: r => conF x r
def freeF (x : Nm) : List He.Fa → Bool
  | [] => false
  | .free y :: r => decide (nmOf y = x) || freeF x r
  | _ :: r => freeF x r
def Lib.ctx (L : Lib) (d : Dc) : Ctx := { N := d.2.N, sc := d.1.scope, fn := fun _ => true, sig := L.sig, con := fun x => conF x L.fa, free := fun x => freeF x L.fa, own := d.2.own, shr := d.2.shr, tks := d.2.tks, rsh := d.2.rsh }
def Lib.fn (L : Lib) (d : Dc) : Fn := { np := (psN d).length, ns := d.2.N.length, body := (rcN sh L.k).b (L.ctx d) d.1.body }
def Lib.tab (L : Lib) (x : Nm) : Option Fn := (L.find x).map L.fn

section
variable {L : Lib} {P : Program} {w : World} {K : PySem.W.Frag} {mg : Str → Option Value} {base : Heap}
theorem find_ok {x : Nm} {d : Dc} (h : L.find x = some d) : nmOf d.1.name = x ∧ plainD L d = true ∧ d ∈ L.ds := by
  unfold Lib.find at h
  have h2 := List.find?_some h
  rw [Bool.and_eq_true, decide_eq_true_eq] at h2
  exact ⟨h2.1, h2.2, List.mem_of_find?_eq_some h⟩
/-- what is plain of a def -/
structure PlainD (L : Lib) (d : Dc) : Prop where
  at1 : d.1.at_ = (d.1.name, none)
  p1 : d.1.params.posonlyargs = []
  p2 : d.1.params.kwonlyargs = []
  p3 : d.1.params.vararg = none
  p4 : d.1.params.kwarg = none
  kw : d.1.kwd = []
  df : d.1.dfl.all (fun v => (dvD v).isSome) = true
  sc : FnScope (d.2.N.map st) ((psN d).map st) d.1.scope
  gl : He.Fa.glo d.1.name ∈ L.fa
theorem isNone_none {α : Type} {o : Option α} (h : o.isNone = true) : o = none := by
  cases o with
  | none => rfl
  | some _ => cases h
theorem nodup_map {l : List Nm} (h : l.Nodup) : (l.map st).Nodup := by
  induction l with
  | nil => exact List.nodup_nil
  | cons x l ih =>
    rw [List.nodup_cons] at h
    rw [List.map_cons, List.nodup_cons]
    refine ⟨fun hm => h.1 ?_, ih h.2⟩
    obtain ⟨y, hy, e⟩ := List.mem_map.mp hm
    rw [← st_inj e]; exact hy
theorem plain_of {d : Dc} (h : plainD L d = true) : PlainD L d := by
  unfold plainD at h
  simp only [Bool.and_eq_true] at h
  obtain ⟨⟨⟨⟨⟨⟨⟨⟨⟨⟨⟨⟨⟨⟨⟨a1, a2⟩, a3⟩, a4⟩, a5⟩, a6⟩, a7⟩, a8⟩, a9⟩, a10⟩, a11⟩, a12⟩, a13⟩, a14⟩, a15⟩, a16⟩ := h
  refine ⟨?_, isEmpty_eq a3, isEmpty_eq a4, isNone_none a5, isNone_none a6, isEmpty_eq a7, a8, ⟨eq_of_beq a9, by simpa using a11, by simpa using a10, nodup_map (of_decide_eq_true a12), ?_, fun x hx => ?_, fun y hy => ?_⟩, ?_⟩
  · have e1 : d.1.at_.1 = d.1.name := eq_of_beq a1
    have e2 := isNone_none a2
    rw [← e1, ← e2]
  · rw [List.length_map, ← List.map_take, eq_of_beq a13]
  · obtain ⟨y, hy, rfl⟩ := List.mem_map.mp hx
    have := List.all_eq_true.mp a14 y hy
    split at this
    · exact .inl (by assumption)
    · exact .inr (by assumption)
    · cases this
  · have := List.all_eq_true.mp a15 y hy
    simpa using this
  · obtain ⟨f, hf, e⟩ := List.any_eq_true.mp a16
    cases f with
    | glo y =>
      have : y = d.1.name := eq_of_beq e
      rw [← this]; exact hf
    | _ => cases e
theorem con_ok (X : K.In base) (G : base.Ns mainGlobals mg) (c : He.SaysD L.fa (L.ds.map (·.1)) K) {x : Nm} {d : D} (h : conF x L.fa = some d) : ∃ v u, mg (st x) = some u ∧ RelV v u ∧ ∀ W H, Den K W H v d := by
  have all : ∀ f ∈ L.fa, f.ok K = true := fun f hf => c.facts hf
  revert h all
  generalize L.fa = fs
  intro h all
  induction fs with
  | nil => cases h
  | cons f fs ih =>
    have tail := fun hh => ih hh fun g hg => all g (List.mem_cons_of_mem _ hg)
    cases f with
    | int y i =>
      unfold conF at h
      split at h
      · rename_i e
        cases h
        obtain ⟨t, e2⟩ := He.int_ok X G (all _ List.mem_cons_self)
        exact ⟨.int i, .int i t, by rw [← e, st_nm]; exact e2, ⟨t, rfl⟩, fun W H => .int i⟩
      · exact tail h
    | str y z =>
      unfold conF at h
      split at h
      · rename_i e
        cases h
        obtain ⟨t, e2⟩ := He.str_ok X G (all _ List.mem_cons_self)
        refine ⟨.str z, .str z t, by rw [← e, st_nm]; exact e2, ⟨t, rfl⟩, fun W H => ?_⟩
        have := Den.str (F := K) (W := W) (H := H) (nmOf z)
        rw [st_nm] at this
        exact this
      · exact tail h
    | _ => exact tail h
theorem free_okF (X : K.In base) (G : base.Ns mainGlobals mg) (c : He.SaysD L.fa (L.ds.map (·.1)) K) {x : Nm} (h : freeF x L.fa = true) : mg (st x) = none := by
  have all : ∀ f ∈ L.fa, f.ok K = true := fun f hf => c.facts hf
  revert h all
  generalize L.fa = fs
  intro h all
  induction fs with
  | nil => cases h
  | cons f fs ih =>
    have tail := fun hh => ih hh fun g hg => all g (List.mem_cons_of_mem _ hg)
    cases f with
    | free y =>
      unfold freeF at h
      rw [Bool.or_eq_true, decide_eq_true_eq] at h
      rcases h with e | h
      · rw [← e, st_nm]
        exact He.free_ok X G (all _ List.mem_cons_self)
      · exact tail h
    | _ => exact tail h
theorem dv_den : ∀ {l : List He.Dv}, l.all (fun v => (dvD v).isSome) = true → ∀ (W : Wd) (H : Hp), DenL K W H (l.map (He.Dv.v K)) (l.map fun v => (dvD v).getD .non)
  | [], _, _, _ => .nil
  | v :: l, h, W, H => by
    rw [List.all_cons, Bool.and_eq_true] at h
    refine .cons ?_ (dv_den h.2 W H)
    cases v with
    | non => exact .non
    | bl b => exact .bl b
    | int i => exact .int i
    | str x =>
      have := Den.str (F := K) (W := W) (H := H) (nmOf x)
      rw [st_nm] at this
      exact this
    | _ => cases h.1
/-- a def's object, its promise -/
def Keeps (L : Lib) (P : Program) (w : World) (K : PySem.W.Frag) (mg : Str → Option Value) (base : Heap) (n : Nat) : Prop := ∀ (x : Nm) (d : Dc), L.find x = some d → ∃ fd, FunD K d.1.name d.1.qual d.1.params d.1.body d.1.scope (d.1.dvs K) (d.1.kws K) (He.ga K (st x)) fd ∧
  FnG P w K mg base (L2.CX P w) n (He.ga K (st x)) fd ((psN d).map st) (SpC K (callN L.tab n) ((psN d).map st).length x)
theorem args_eq (d : Dc) : d.1.params.args.map (·.arg) = (psN d).map st := by
  unfold psN
  rw [List.map_map]
  exact List.map_congr_left fun a _ => (st_nm a.arg).symm
theorem callee_of {X : Cx} {n : Nat} (hX : X.K = K) (hm : X.mg = mg) (hb : X.base = base) (hp : X.prog = P) (hw : X.w = w) (Kb : K.In base) (G : base.Ns mainGlobals mg) (c : He.SaysD L.fa (L.ds.map (·.1)) K) (S : Keeps L P w K mg base n) {x : Nm} {ps : List Nm} {dfl : List D} (h : L.sig x = some (ps, dfl)) : Callee X (callN L.tab n) n (st x) (ps.map st) dfl := by
  subst hX hm hb hp hw
  unfold Lib.sig at h
  cases q : L.find x with
  | none => rw [q] at h; cases h
  | some d =>
    rw [q] at h
    cases h
    obtain ⟨e1, e2, e3⟩ := find_ok q
    have pd := plain_of e2
    obtain ⟨fd, F, FG⟩ := S x d q
    have kw : d.1.kws X.K = [] := by unfold He.DefD.kws; rw [pd.kw]; rfl
    rw [kw] at F
    have e4 : st x = d.1.name := by rw [← e1, st_nm]
    have hmg : X.mg (st x) = some (.ref (He.ga X.K (st x))) := by rw [e4]; exact He.glo_ok Kb G (c.facts pd.gl)
    have e5 : (st x).cps.toList = x := st_cps x
    refine ⟨_, fd, d.1.dvs X.K, hmg, F.kp, by rw [e5]; exact FG, dv_den pd.df, fun m ks p hbs => ?_⟩
    rw [← args_eq] at hbs ⊢
    have hl : (dfD d).length = (d.1.dvs X.K).length := by unfold dfD He.DefD.dvs; rw [List.length_map, List.length_map]
    rw [hl] at hbs
    exact bind_all F pd.p1 pd.p2 pd.p3 pd.p4 hbs
theorem keeps_all (Kb : K.In base) (G : base.Ns mainGlobals mg) (c : He.SaysD L.fa (L.ds.map (·.1)) K) : ∀ n : Nat, Keeps L P w K mg base n := by
  intro n
  induction n with
  | zero =>
    intro x d h
    obtain ⟨e1, e2, e3⟩ := find_ok h
    have pd := plain_of e2
    obtain ⟨fd, F⟩ := c.defs (List.mem_map_of_mem e3)
    have ea : He.fAd K d.1.at_ = He.ga K (st x) := by rw [pd.at1, ← e1, st_nm]; rfl
    rw [ea] at F
    exact ⟨fd, F, ⟨fun vs H Q E q => q.1, fun A fs t H as bs vs Q E _ _ _ _ _ ⟨_, W, hh, ds, _, _, z⟩ => z.elim⟩⟩
  | succ n ih =>
    intro x d h
    obtain ⟨e1, e2, e3⟩ := find_ok h
    have pd := plain_of e2
    obtain ⟨fd, F⟩ := c.defs (List.mem_map_of_mem e3)
    have ea : He.fAd K d.1.at_ = He.ga K (st x) := by rw [pd.at1, ← e1, st_nm]; rfl
    rw [ea] at F
    refine ⟨fd, F, FnG.of F pd.sc (fun vs H Q E q => q.1) fun cd A fs t H vs Q E room gd ⟨_, W, hh, ds, hr, dl, post⟩ => ?_⟩
    have htab : L.tab x = some (L.fn d) := by unfold Lib.tab; rw [h]; rfl
    have post : PostC K W hh H Q E (runF (L.fn d) (callN L.tab n) ds hh) := by
      unfold callN at post
      rw [htab] at post
      exact post
    generalize hX : cxOf (L2.CX P w) P w K mg base (d.2.N.map st) d.1.qual d.1.scope (He.ga K (st x)) cd A fs t H E = X
    have xK : X.K = K := by rw [← hX]; rfl
    have cc : Cc X (fun cls d _ H' => E cls d H') := by
      subst hX
      refine ⟨rfl, pd.sc.nd, ?_, gd, passes_of rfl, takes_of rfl rfl rfl rfl⟩
      have := room.un
      show (A.deeper _).units + 200 < cLine
      omega
    have fx : FX (L.ctx d) X (callN L.tab n) n := by
      subst hX
      exact ⟨rfl, rfl, fun _ => rfl, pd.sc.kind, fun y ps dfl hs => callee_of (X := cxOf (L2.CX P w) P w K mg base (d.2.N.map st) d.1.qual d.1.scope (He.ga K (st x)) cd A fs t H E) rfl rfl rfl rfl rfl Kb G c ih hs, fun y dd hc => con_ok Kb G c hc, fun y hf => free_okF Kb G c hf, room⟩
    have hps := (snd_all L.k).b cc fx d.1.body
    rw [xK] at hps
    refine ⟨_, hps, ?_⟩
    have hpl : (psN d).length ≤ d.2.N.length := by
      have e := congrArg List.length pd.sc.pre
      rw [List.length_take, List.length_map, List.length_map] at e
      omega
    exact body_run (fn := L.fn d) (Wx := fun cls d _ H' => E cls d H') (by rw [List.length_map]; rfl) hpl (fun _ _ _ _ q => q) hr dl post
end
/-- the script, as Cy sees it -/
def script (ns : List Int) : D := .fro (ns.map D.int)
theorem den_ints {F : Fg} {W : Wd} {H : Hp} : ∀ ns : List Int, DenL F W H (ns.map V.int) (ns.map D.int)
  | [] => .nil
  | n :: ns => .cons (.int n) (den_ints ns)
/-- what is left of a law: Cy's run of it says True -/
theorem law_of {l : PySem.W.OpenLaw} {m n : Nat} {q : Program} {loose : List Str} {XP : (Str → Option Value) → Heap → Prop} {d : DefRec} {x : Str} (L : Lib) (hm : l.most = some m) (hm2 : m ≤ sizeLine) (hdf : d.params.defaults = []) (rm : Room n callerA) (dc : Dc) (hf : L.find (nmOf d.name) = some dc) (hx : psN dc = [nmOf x]) (hd : dfD dc = [])
    (run : ∀ ns : List Int, ns.length ≤ m → (∀ k ∈ ns, Builtin.Int.intBits k ≤ 1048576) → ∃ h, callN L.tab n (nmOf d.name) [script ns] [] = .ok (.bl true) h) :
    PySem.W.WalkO q loose XP (fun _ h => ∃ K : PySem.W.Frag, K.In h ∧ He.SaysD L.fa (L.ds.map (·.1)) K) l.row.toRowW d [] (fun f vs => PySem.call f vs) := by
  refine walkG (x := x) hm hm2 hdf rm fun w mg fa h ⟨K, kin, c⟩ G hmg => ?_
  obtain ⟨fd, F, FG⟩ := keeps_all (P := l.prog) (w := w) kin G c n _ _ hf
  obtain ⟨e1, e2, e3⟩ := find_ok hf
  have pd := plain_of e2
  rw [st_nm] at F FG
  have hga : He.ga K d.name = fa := by
    have en : dc.1.name = d.name := by rw [← st_nm dc.1.name, e1, st_nm]
    have := He.glo_ok kin G (c.facts pd.gl)
    rw [en, hmg] at this
    cases this
    rfl
  have kw : dc.1.kws K = [] := by unfold He.DefD.kws; rw [pd.kw]; rfl
  have F2 := F
  rw [kw] at F2
  have dv : dc.1.dvs K = [] := by
    have : (dc.1.dvs K).length = 0 := by
      have h0 := congrArg List.length hd
      unfold dfD at h0
      unfold He.DefD.dvs
      rw [List.length_map] at h0 ⊢
      exact h0
    exact List.eq_nil_of_length_eq_zero this
  have ps1 : dc.1.params.args.map (·.arg) = [x] := by rw [args_eq, hx, List.map_cons, st_nm]; rfl
  obtain ⟨its, rv, bg⟩ := bind_all (n := 1) (ks := []) (p := [.inl 0]) F2 pd.p1 pd.p2 pd.p3 pd.p4 (by
    rw [ps1, dv]
    unfold bindS
    have hb : bindOk [x] 1 [] ([] : List V).length = true := by
      unfold bindOk
      simp [syU, syK, List.range_succ]
    rw [if_pos hb]
    simp [slotsOf, syU, syK, syD, List.range_succ])
  rw [ps1] at bg
  refine ⟨K, fd, SpC K (callN L.tab n) 1 (nmOf d.name), kin, fun s u ks => ?_, ?_, fun base kb G' => ?_⟩
  · have b := bg.to s [u] ks rfl
    exact b
  · intro H a ns hl hbits hO hS
    obtain ⟨h, e⟩ := run ns hl hbits
    refine ⟨rfl, ⟨fun _ => none, fun _ => False⟩, [], [script ns], ⟨fun a z => z.elim, (fun n a z => by cases z), (fun n o z => by simp at z), (fun n m a z => by cases z), (fun n o z => by simp at z)⟩, .cons ?_ .nil, ?_⟩
    · refine .fro (fun H' keep => ?_) (den_ints ns)
      rcases hS with (z | ⟨o, z⟩) | z
      · rcases hO a with y | ⟨o, xs, y⟩ <;> rw [y] at z <;> cases z
      · exact .inl (.inr ⟨o, keep o _ z⟩)
      · exact .inr z
    · rw [e]
      exact fun W' H' v _ _ dv => dv.blv
  · obtain ⟨fd2, Fb, FGb⟩ := keeps_all (P := l.prog) (w := w) kb G' c n _ _ hf
    rw [st_nm] at Fb FGb
    have same : fd2 = fd := by
      obtain ⟨_, _, _, _, _, _, _, _, _, _, _, l1, _⟩ := F.ex
      obtain ⟨_, _, _, _, _, _, _, _, _, _, _, l2, _⟩ := Fb.ex
      rw [l1] at l2
      cases l2
      rfl
    rw [hx] at FGb
    rw [same, hga] at FGb
    have ex : ([nmOf x].map st) = [x] := by rw [List.map_cons, st_nm]; rfl
    rw [ex] at FGb
    exact FGb
end Cy

set_option maxRecDepth 1000000
set_option linter.all false
/-! Cy: what runs say, in plain Lean: weakest preconditions, step by step. -/
namespace Cy
theorem fitI_of {n : Nat} {i : Int} (h : i.natAbs < 2 ^ n) (h0 : 0 < n) : fitI n i = true := by
  unfold fitI
  rw [decide_eq_true_eq]
  by_cases z : i.natAbs = 0
  · rw [z]; simpa using h0
  · exact (Nat.log2_lt z).mpr h
theorem fit_small {n : Nat} {i : Int} (a : -(2 ^ 62) ≤ i) (b : i ≤ 2 ^ 62) (h : 63 ≤ n) : fitI n i = true := by
  refine fitI_of ?_ (by omega)
  have : (2 : Nat) ^ 63 ≤ 2 ^ n := Nat.pow_le_pow_right (by omega) h
  omega
theorem fit_mod {n : Nat} (i : Int) {m : Int} (hm : 0 < m) (h : m ≤ 2 ^ 62) (h0 : 63 ≤ n) : fitI n (i % m) = true := by
  have h1 := Int.emod_nonneg i (show m ≠ 0 by omega)
  have h2 := Int.emod_lt_of_pos i hm
  exact fit_small (by omega) (by omega) h0
theorem atI_in {l : List D} {i : Int} (h0 : 0 ≤ i) (h1 : i < l.length) : ∃ d, atI l i = some d ∧ d ∈ l := by
  unfold atI ixN
  rw [if_pos h0, if_pos h1]
  have : i.toNat < l.length := by omega
  exact ⟨l[i.toNat], by simp [List.getElem?_eq_getElem this], List.getElem_mem this⟩
theorem atI_ints {c : List Int} {i : Int} (h0 : 0 ≤ i) (h1 : i < c.length) : ∃ k, atI (c.map .int) i = some (.int k) ∧ k ∈ c := by
  obtain ⟨d, e, m⟩ := atI_in (l := c.map .int) h0 (by simpa using h1)
  obtain ⟨k, hk, rfl⟩ := List.mem_map.mp m
  exact ⟨k, e, hk⟩
theorem plain_ints (c : List Int) : plain (.lst (c.map .int)) = true := by
  simp [plain, pl]

/-! ### wishes -/
section
variable {α β : Type}
def Res.wp (r : Res α) (Q : α → S → Prop) (E : Exc → S → Prop) : Prop := match r with
  | .ok a s => Q a s
  | .exc x s => E x s
  | .bad => False
def optW (o : Option α) (Q : α → Prop) : Prop := match o with
  | some a => Q a
  | none => False
structure En where
  nx : S → Prop
  rt : D → List Ob → Prop
  bk : S → Prop
  ct : S → Prop
  ex : Exc → S → Prop
def Fl.wp (f : Fl) (K : En) : Prop := match f with
  | .bad => False
  | .nx s => K.nx s
  | .rt d h => K.rt d h
  | .bk s => K.bk s
  | .ct s => K.ct s
  | .exc x s => K.ex x s
def CR.wp (c : CR) (Q : D → List Ob → Prop) (E : Exc → List Ob → Prop) : Prop := match c with
  | .ok d h => Q d h
  | .exc x h => E x h
  | .bad => False
variable {Q : α → S → Prop} {E : Exc → S → Prop} {g : G} {s : S} {K : En}
theorem wp_bind (r : Res β) (f : β → S → Res α) : (r.bind f).wp Q E = r.wp (fun a s => (f a s).wp Q E) E := by cases r <;> rfl
theorem wp_thn (r : Res β) (f : β → S → Fl) : (r.thn f).wp K = r.wp (fun a s => (f a s).wp K) K.ex := by cases r <;> rfl
theorem wp_ok (a : α) : (Res.ok a s).wp Q E = Q a s := rfl
theorem optW_some (a : β) (Q : β → Prop) : optW (some a) Q = Q a := rfl
theorem optW_none (Q : β → Prop) : optW none Q = False := rfl
theorem wp_opt (o : Option β) (f : β → Res α) : (match o with | some r => f r | none => .bad).wp Q E = optW o fun r => (f r).wp Q E := by cases o <;> rfl
/-- the place of a name -/
def slW : List Sl → Nat → (Sl → Prop) → Prop
  | [], _, _ => False
  | a :: _, 0, P => P a
  | _ :: l, n + 1, P => slW l n P
theorem slW_zero (a : Sl) (l : List Sl) (P : Sl → Prop) : slW (a :: l) 0 P = P a := rfl
theorem slW_succ (a : Sl) (l : List Sl) (n : Nat) (P : Sl → Prop) : slW (a :: l) (n + 1) P = slW l n P := rfl
theorem slW_eq (l : List Sl) (i : Nat) (P : Sl → Prop) : slW l i P = optW l[i]? P := by
  induction l generalizing i with
  | nil => rfl
  | cons a l ih => cases i with
    | zero => rfl
    | succ n => show slW l n P = _; rw [ih]; simp
/-- a value stands there -/
def vlW (x : Sl) (P : D → Prop) : Prop := match x with
  | .val d => P d
  | .own d => P d
  | .no => False
theorem vlW_val (d : D) (P : D → Prop) : vlW (.val d) P = P d := rfl
theorem vlW_own (d : D) (P : D → Prop) : vlW (.own d) P = P d := rfl
/-- stored -/
def stW : List Sl → Nat → Sl → (List Sl → Prop) → Prop
  | [], _, _, _ => False
  | _ :: l, 0, v, P => P (v :: l)
  | a :: l, n + 1, v, P => stW l n v fun l => P (a :: l)
theorem stW_zero (a : Sl) (l : List Sl) (v : Sl) (P : List Sl → Prop) : stW (a :: l) 0 v P = P (v :: l) := rfl
theorem stW_succ (a : Sl) (l : List Sl) (n : Nat) (v : Sl) (P : List Sl → Prop) : stW (a :: l) (n + 1) v P = stW l n v fun l => P (a :: l) := rfl
theorem stW_eq (l : List Sl) (i : Nat) (v : Sl) (P : List Sl → Prop) : stW l i v P = (i < l.length ∧ P (l.set i v)) := by
  induction l generalizing i P with
  | nil => simp [stW]
  | cons a l ih => cases i with
    | zero => simp [stW]
    | succ n => show stW l n v _ = _; rw [ih]; simp
end
end Cy

set_option maxRecDepth 1000000
set_option linter.all false
/-! Cy: what each piece of code wishes. -/
namespace Cy
section
variable {α β : Type} {g : G} {σ : List Sl} {h : List Ob} {s : S} {E : Exc → S → Prop} {K : En}
/-! ### expressions -/
section
variable {Q : D → S → Prop}
def varW (x : Sl) (σ : List Sl) (i : Nat) (h : List Ob) (Q : D → S → Prop) : Prop := match x with
  | .val d => Q d ⟨σ, h⟩
  | .own d => stW σ i (.val d) fun σ' => Q d ⟨σ', h⟩
  | .no => False
theorem varW_val (d : D) (i : Nat) : varW (.val d) σ i h Q = Q d ⟨σ, h⟩ := rfl
theorem varW_own (d : D) (i : Nat) : varW (.own d) σ i h Q = stW σ i (.val d) fun σ' => Q d ⟨σ', h⟩ := rfl
theorem w_var (i : Nat) : (var i g ⟨σ, h⟩).wp Q E = slW σ i fun x => varW x σ i h Q := by
  rw [slW_eq]
  unfold var
  cases q : σ[i]? with
  | none => simp only [q]; rfl
  | some x =>
    simp only [q, optW_some]
    cases x with
    | no => rfl
    | val d => rfl
    | own d =>
      show Q d ⟨σ.set i (.val d), h⟩ = stW σ i (.val d) _
      rw [stW_eq]
      have := (List.getElem?_eq_some_iff.mp q).1
      simp [this]
theorem w_cst (d : D) : (cst d g s).wp Q E = Q d s := rfl
def liveW (x : Sl) (P : Prop) : Prop := match x with
  | .no => False
  | _ => P
theorem liveW_val (d : D) (P : Prop) : liveW (.val d) P = P := rfl
theorem liveW_own (d : D) (P : Prop) : liveW (.own d) P = P := rfl
theorem w_pk (i : Nat) : ((Op.pk i).ev g ⟨σ, h⟩).wp Q E = slW σ i fun x => liveW x (Q .non ⟨σ, h⟩) := by
  rw [slW_eq]
  show (evP i ⟨σ, h⟩).wp Q E = _
  unfold evP
  cases q : σ[i]? with
  | none => simp only [q]; rfl
  | some x =>
    simp only [q, optW_some]
    cases x <;> rfl
theorem w_ex (e : Ex) : ((Op.ex e).ev g s).wp Q E = (e g s).wp Q E := rfl
def rdW (a : Op) (x : D) (s : S) (P : D → Prop) : Prop := optW (a.rd x s) P
theorem rdW_pk (i : Nat) (x : D) (P : D → Prop) : rdW (.pk i) x ⟨σ, h⟩ P = slW σ i fun x => vlW x P := by
  rw [slW_eq]
  show optW (rdP i ⟨σ, h⟩) P = _
  unfold rdP
  cases q : σ[i]? with
  | none => simp only [q]; rfl
  | some x =>
    simp only [q, optW_some]
    cases x <;> rfl
theorem rdW_ex (e : Ex) (x : D) (P : D → Prop) : rdW (.ex e) x s P = P x := rfl
theorem w_o1 (f : List Ob → D → Option D) (a : Op) : (o1 f a g s).wp Q E = (a.ev g s).wp (fun x s => rdW a x s fun d => optW (f s.h d) fun r => Q r s) E := by
  unfold o1
  rw [wp_bind]
  congr 1
  funext x s
  unfold rdW
  cases a.rd x s with
  | none => rfl
  | some d =>
    show Res.wp (match f s.h d with | some r => .ok r s | none => .bad) Q E = optW (f s.h d) _
    cases f s.h d <;> rfl
theorem w_o2 (f : List Ob → D → D → Option D) (a b : Op) : (o2 f a b g s).wp Q E = (a.ev g s).wp (fun x s => (b.ev g s).wp (fun y s => rdW a x s fun d => rdW b y s fun e => optW (f s.h d e) fun r => Q r s) E) E := by
  unfold o2
  rw [wp_bind]
  congr 1
  funext x s
  rw [wp_bind]
  congr 1
  funext y s
  unfold rdW
  cases a.rd x s with
  | none => rfl
  | some d =>
    cases b.rd y s with
    | none => rfl
    | some e =>
      show Res.wp (match f s.h d e with | some r => .ok r s | none => .bad) Q E = optW (f s.h d e) _
      cases f s.h d e <;> rfl
theorem w_get (a b : Op) (c : Ex) : (getE a b c g s).wp Q E = (a.ev g s).wp (fun x s => rdW a x s fun d0 => isDic s.h d0 = true ∧ (b.ev g s).wp (fun y s => (c g s).wp (fun u s => rdW a x s fun d => rdW b y s fun e => optW (dGet s.h d e u) fun r => Q r s) E) E) E := by
  unfold getE
  rw [wp_bind]
  congr 1
  funext x s
  unfold rdW
  cases q : a.rd x s with
  | none => rfl
  | some d0 =>
    show Res.wp (if isDic s.h d0 = true then _ else _) Q E = _
    by_cases z : isDic s.h d0 = true
    · rw [if_pos z, optW_some, wp_bind]
      simp only [z, true_and]
      congr 1
      funext y s
      rw [wp_bind]
      congr 1
      funext u s
      cases a.rd x s with
      | none => rfl
      | some d =>
        cases b.rd y s with
        | none => rfl
        | some e =>
          show Res.wp (match dGet s.h d e u with | some r => .ok r s | none => .bad) Q E = optW (dGet s.h d e u) _
          cases dGet s.h d e u <;> rfl
    · rw [if_neg z, optW_some]
      simp only [z]
      simp [Res.wp]
def blW (x : D) (P : Bool → Prop) : Prop := match x with
  | .bl b => P b
  | _ => False
theorem blW_bl (b : Bool) (P : Bool → Prop) : blW (.bl b) P = P b := rfl
theorem w_and (a b : Ex) : (eAnd a b g s).wp Q E = (a g s).wp (fun x s => blW x fun k => if k = true then (b g s).wp Q E else Q (.bl false) s) E := by
  unfold eAnd
  rw [wp_bind]
  congr 1
  funext x s
  cases x with
  | bl k => cases k <;> simp [blW, Res.wp]
  | _ => rfl
theorem w_or (a b : Ex) : (eOr a b g s).wp Q E = (a g s).wp (fun x s => blW x fun k => if k = true then Q (.bl true) s else (b g s).wp Q E) E := by
  unfold eOr
  rw [wp_bind]
  congr 1
  funext x s
  cases x with
  | bl k => cases k <;> simp [blW, Res.wp]
  | _ => rfl
theorem w_not (a : Ex) : (eNot a g s).wp Q E = (a g s).wp (fun x s => blW x fun k => Q (.bl (!k)) s) E := by
  unfold eNot
  rw [wp_bind]
  congr 1
  funext x s
  cases x <;> rfl
theorem w_ite (t : Tx) (a b : Ex) : (eIf t a b g s).wp Q E = (t g s).wp (fun c s => if c = true then (a g s).wp Q E else (b g s).wp Q E) E := by
  unfold eIf
  rw [wp_bind]
  congr 1
  funext c s
  cases c <;> simp
theorem w_chain (f f' : D → D → Option D) (a b c : Ex) : (eChain f f' a b c g s).wp Q E = (a g s).wp (fun x s => (b g s).wp (fun y s => optW (f x y) fun r => blW r fun k => if k = true then (c g s).wp (fun z s => optW (f' y z) fun r => Q r s) E else Q (.bl false) s) E) E := by
  unfold eChain
  rw [wp_bind]
  congr 1
  funext x s
  rw [wp_bind]
  congr 1
  funext y s
  cases f x y with
  | none => rfl
  | some r =>
    cases r with
    | bl k =>
      cases k with
      | true =>
        show Res.wp ((c g s).bind _) Q E = _
        rw [wp_bind]
        simp only [optW_some, blW_bl, if_true]
        congr 1
        funext z s
        cases f' y z <;> rfl
      | false => simp [optW, blW, Res.wp]
    | _ => rfl
def intW (x : D) (P : Int → Prop) : Prop := match x with
  | .int b => P b
  | _ => False
theorem intW_int (b : Int) (P : Int → Prop) : intW (.int b) P = P b := rfl
/-- a slice -/
def partW (o : Option Ex) (g : G) (s : S) (P : Option Int → S → Prop) (E : Exc → S → Prop) : Prop := (partE o g s).wp P E
theorem partW_none (P : Option Int → S → Prop) : partW none g s P E = P none s := rfl
theorem partW_some (e : Ex) (P : Option Int → S → Prop) : partW (some e) g s P E = (e g s).wp (fun x s => intW x fun i => P (some i) s) E := by
  unfold partW partE
  rw [wp_bind]
  congr 1
  funext x s
  cases x <;> rfl
theorem w_cut (a : Op) (lo hi : Option Ex) : (cutE a lo hi g s).wp Q E = (a.ev g s).wp (fun x s => partW lo g s (fun l s => partW hi g s (fun u s => rdW a x s fun d => optW (dCut d l u) fun r => Q r s) E) E) E := by
  unfold cutE
  rw [wp_bind]
  congr 1
  funext x s
  rw [wp_bind]
  unfold partW
  congr 1
  funext l s
  rw [wp_bind]
  congr 1
  funext u s
  unfold rdW
  cases a.rd x s with
  | none => rfl
  | some d =>
    show Res.wp (match dCut d l u with | some r => .ok r s | none => .bad) Q E = optW (dCut d l u) _
    cases dCut d l u <;> rfl
theorem w_tup (a : Ax) : (tupE a g s).wp Q E = (a g s).wp (fun l s => l.length ≤ lim ∧ Q (.tup l) s) E := by
  unfold tupE
  rw [wp_bind]
  congr 1
  funext l s
  by_cases z : l.length ≤ lim <;> simp [z, Res.wp]
theorem w_lst (a : Ax) : (lstE a g s).wp Q E = (a g s).wp (fun l s => l.length ≤ lim ∧ Q (.lst l) s) E := by
  unfold lstE
  rw [wp_bind]
  congr 1
  funext l s
  by_cases z : l.length ≤ lim <;> simp [z, Res.wp]
end
/-! ### tests -/
section
variable {Q : Bool → S → Prop}
theorem w_tE (e : Ex) : (tE e g s).wp Q E = (e g s).wp (fun x s => blW x fun k => Q k s) E := by
  unfold tE
  rw [wp_bind]
  congr 1
  funext x s
  cases x <;> rfl
theorem w_tNot (t : Tx) : (tNot t g s).wp Q E = (t g s).wp (fun b s => Q (!b) s) E := by
  unfold tNot; rw [wp_bind]; rfl
theorem w_tAnd (t u : Tx) : (tAnd t u g s).wp Q E = (t g s).wp (fun b s => if b = true then (u g s).wp Q E else Q false s) E := by
  unfold tAnd
  rw [wp_bind]
  congr 1
  funext b s
  cases b <;> simp [Res.wp]
theorem w_tOr (t u : Tx) : (tOr t u g s).wp Q E = (t g s).wp (fun b s => if b = true then Q true s else (u g s).wp Q E) E := by
  unfold tOr
  rw [wp_bind]
  congr 1
  funext b s
  cases b <;> simp [Res.wp]
theorem w_tYes : (tYes g s).wp Q E = Q true s := rfl
end
/-! ### rows -/
section
variable {Q : List D → S → Prop}
theorem w_aNil : (aNil g s).wp Q E = Q [] s := rfl
theorem w_aCons (e : Ex) (r : Ax) : (aCons e r g s).wp Q E = (e g s).wp (fun x s => (r g s).wp (fun xs s => Q (x :: xs) s) E) E := by
  unfold aCons
  rw [wp_bind]
  congr 1
  funext x s
  rw [wp_bind]; rfl
theorem w_aStar (e : Ex) (r : Ax) : (aStar e r g s).wp Q E = (e g s).wp (fun x s => optW (items? x) fun l => (r g s).wp (fun xs s => l.length + xs.length ≤ lim ∧ Q (l ++ xs) s) E) E := by
  unfold aStar
  rw [wp_bind]
  congr 1
  funext x s
  cases items? x with
  | none => rfl
  | some l =>
    show Res.wp ((r g s).bind _) Q E = _
    rw [wp_bind, optW_some]
    congr 1
    funext xs s
    by_cases z : l.length + xs.length ≤ lim <;> simp [z, Res.wp]
theorem w_iVal (e : Ex) : (iVal e g s).wp Q E = (e g s).wp (fun x s => optW (walk? x) fun l => Q l s) E := by
  unfold iVal
  rw [wp_bind]
  congr 1
  funext x s
  cases walk? x <;> rfl
theorem w_iArgs (f : List D → Option (List D)) (a : Ax) : (iArgs f a g s).wp Q E = (a g s).wp (fun x s => optW (f x) fun l => Q l s) E := by
  unfold iArgs
  rw [wp_bind]
  congr 1
  funext x s
  cases f x <;> rfl
end
/-! ### targets -/
section
variable {P : S → Prop}
def tgW (tg : Tg) (d : D) (s : S) (P : S → Prop) : Prop := optW (tg d s) P
theorem tg_name (i : Nat) (d : D) : tgW (gName i) d ⟨σ, h⟩ P = stW σ i (.val d) fun σ => P ⟨σ, h⟩ := by
  unfold tgW gName
  rw [stW_eq]
  by_cases z : i < σ.length <;> simp [z, optW]
def tgsW (ts : List Tg) (ds : List D) (s : S) (P : S → Prop) : Prop := optW (gTups ts ds s) P
theorem tgs_nil : tgsW [] [] s P = P s := rfl
theorem tgs_cons (t : Tg) (ts : List Tg) (d : D) (ds : List D) : tgsW (t :: ts) (d :: ds) s P = tgW t d s fun s => tgsW ts ds s P := by
  unfold tgsW tgW
  show optW (match t d s with | some s => gTups ts ds s | none => none) P = _
  cases t d s <;> rfl
theorem tg_tup (ts : List Tg) (l : List D) : tgW (gTup ts) (.tup l) s P = tgsW ts l s P := rfl
theorem tg_lst (ts : List Tg) (l : List D) : tgW (gTup ts) (.lst l) s P = tgsW ts l s P := rfl
end
/-! ### statements -/
theorem w_pass : (pass g s).wp K = K.nx s := rfl
theorem w_brk : (brk g s).wp K = K.bk s := rfl
theorem w_cont : (cont g s).wp K = K.ct s := rfl
theorem w_seq (a b : Bl) : (seq a b g s).wp K = (a g s).wp ⟨fun s => (b g s).wp K, K.rt, K.bk, K.ct, K.ex⟩ := by
  unfold seq
  cases a g s <;> rfl
theorem w_ret (e : Ex) : (ret e g s).wp K = (e g s).wp (fun d s => K.rt d s.h) K.ex := by
  unfold ret
  cases e g s <;> rfl
theorem w_asg (tg : Tg) (e : Ex) : (asg tg e g s).wp K = (e g s).wp (fun d s => tgW tg d s K.nx) K.ex := by
  unfold asg
  cases e g s with
  | ok d s =>
    show Fl.wp (match tg d s with | some s => .nx s | none => .bad) K = optW (tg d s) K.nx
    cases tg d s <;> rfl
  | _ => rfl
def slOf (d : D) : Sl := if ownable d then .own d else .val d
theorem w_take (i : Nat) (e : Ex) : (take i e g s).wp K = (e g s).wp (fun d s => stW s.sg i (if ownable d = true then .own d else .val d) fun σ => K.nx ⟨σ, s.h⟩) K.ex := by
  unfold take
  cases e g s with
  | ok d s =>
    show Fl.wp (if i < s.sg.length then _ else _) K = stW s.sg i _ _
    rw [stW_eq]
    by_cases z : i < s.sg.length <;> simp [z, Fl.wp]
  | _ => rfl
theorem wp_mono_eq {α : Type} {r : Res α} {Q Q' : α → S → Prop} {E : Exc → S → Prop} (h : ∀ a s, Q a s = Q' a s) : r.wp Q E = r.wp Q' E := by
  have : Q = Q' := funext fun a => funext fun s => h a s
  rw [this]
theorem w_parS (is : List Nat) (es : List (Bool × Ex)) : (parS is es g s).wp K = (rowS es g s).wp (fun l s => optW (putAll is l s.sg) fun σ => K.nx ⟨σ, s.h⟩) K.ex := by
  unfold parS
  cases rowS es g s with
  | ok l s =>
    show Fl.wp (match putAll is l s.sg with | some σ => .nx { s with sg := σ } | none => .bad) K = optW _ _
    cases putAll is l s.sg <;> rfl
  | _ => rfl
theorem w_rowS_nil {Q : List Sl → S → Prop} : (rowS [] g s).wp Q E = Q [] s := rfl
theorem w_rowS_cons {Q : List Sl → S → Prop} (b : Bool) (e : Ex) (r : List (Bool × Ex)) : (rowS ((b, e) :: r) g s).wp Q E = (e g s).wp (fun d s => (rowS r g s).wp (fun l s => Q ((if b = true then .own d else .val d) :: l) s) E) E := by
  show Res.wp ((e g s).bind _) Q E = _
  rw [wp_bind]
  refine wp_mono_eq fun d s => ?_
  rw [wp_bind]
  exact wp_mono_eq fun l s => rfl
theorem ptAll_nil (σ : List Sl) (P : List Sl → Prop) : optW (putAll [] [] σ) P = P σ := rfl
theorem ptAll_cons (i : Nat) (is : List Nat) (x : Sl) (xs : List Sl) (σ : List Sl) (P : List Sl → Prop) : optW (putAll (i :: is) (x :: xs) σ) P = stW σ i x fun σ => optW (putAll is xs σ) P := by
  rw [stW_eq]
  show optW (if i < σ.length then putAll is xs (σ.set i x) else none) P = _
  by_cases z : i < σ.length <;> simp [z, optW]
theorem w_expr (e : Ex) : (exprS e g s).wp K = (e g s).wp (fun _ s => K.nx s) K.ex := by
  unfold exprS
  cases e g s <;> rfl
theorem w_if (t : Tx) (a b : Bl) : (ifS t a b g s).wp K = (t g s).wp (fun c s => if c = true then (a g s).wp K else (b g s).wp K) K.ex := by
  unfold ifS
  cases t g s with
  | ok c s => cases c <;> rfl
  | _ => rfl
theorem w_forL_nil (tg : Tg) (b : Bl) : (forL tg b g [] s).wp K = K.nx s := rfl
theorem w_forL_cons (tg : Tg) (b : Bl) (d : D) (ds : List D) : (forL tg b g (d :: ds) s).wp K = tgW tg d s fun s => (b g s).wp ⟨fun s => (forL tg b g ds s).wp K, K.rt, K.nx, fun s => (forL tg b g ds s).wp K, K.ex⟩ := by
  unfold tgW
  rw [forL]
  cases tg d s with
  | none => rfl
  | some s =>
    show Fl.wp (match b g s with | .nx s => forL tg b g ds s | .ct s => forL tg b g ds s | .bk s => .nx s | f => f) K = Fl.wp (b g s) _
    cases b g s <;> rfl
theorem w_for (it : Ix) (tg : Tg) (b : Bl) : (forS it tg b g s).wp K = (it g s).wp (fun l s => (forL tg b g l s).wp K) K.ex := by
  unfold forS
  cases it g s <;> rfl
theorem w_augI (f : Int → Int → Int) (i : Nat) (e : Ex) : (augI f i e g ⟨σ, h⟩).wp K = slW σ i fun x => vlW x fun d => intW d fun a => (e g ⟨σ, h⟩).wp (fun d s => intW d fun b => stW s.sg i (.val (.int (f a b))) fun σ => K.nx ⟨σ, s.h⟩) K.ex := by
  rw [slW_eq]
  unfold augI rdP
  cases q : σ[i]? with
  | none => simp only [q]; rfl
  | some x =>
    simp only [q, optW_some]
    have go : ∀ d : D, Fl.wp (match (some d : Option D) with | some (.int x) => (e g ⟨σ, h⟩).thn fun d s => (match d with | .int y => if i < s.sg.length then .nx { s with sg := s.sg.set i (.val (.int (f x y))) } else .bad | _ => .bad) | _ => .bad) K = intW d fun a => (e g ⟨σ, h⟩).wp (fun d s => intW d fun b => stW s.sg i (.val (.int (f a b))) fun σ => K.nx ⟨σ, s.h⟩) K.ex := fun d => by
      cases d with
      | int a =>
        show Fl.wp ((e g ⟨σ, h⟩).thn _) K = _
        rw [wp_thn]
        congr 1
        funext d s
        cases d with
        | int b =>
          show Fl.wp (if i < s.sg.length then _ else _) K = stW s.sg i _ _
          rw [stW_eq]
          by_cases z : i < s.sg.length <;> simp [z, Fl.wp]
        | _ => rfl
      | _ => rfl
    cases x with
    | no => rfl
    | val d => exact go d
    | own d => exact go d
/-! ### calls -/
theorem w_call {Q : D → S → Prop} (f : Nm) (n : Nat) (a k : Ax) (p : List (Sum Nat D)) : (callK f n a k p g s).wp Q E = (a g s).wp (fun xs s => (k g s).wp (fun ys s => xs.length = n ∧ optW (arrange p (xs ++ ys)) fun es => (g f es s.h).wp (fun d h => Q d ⟨s.sg, h⟩) fun x h => E x ⟨s.sg, h⟩) E) E := by
  unfold callK
  rw [wp_bind]
  congr 1
  funext xs s
  rw [wp_bind]
  congr 1
  funext ys s
  by_cases z : xs.length = n
  · simp only [z, if_true, true_and]
    cases arrange p (xs ++ ys) with
    | none => rfl
    | some es =>
      simp only [optW_some]
      cases g f es s.h <;> rfl
  · simp [z, Res.wp]
/-- what a def gives -/
def gcW (n : Nat) (d : D) (h : List Ob) (Q : D → List Ob → Prop) : Prop := if h.length ≤ n then Q d h else if noR n d = true then Q d (h.take n) else Q d h
theorem gcW_le {n : Nat} {d : D} {h : List Ob} {Q : D → List Ob → Prop} (e : h.length ≤ n) : gcW n d h Q = Q d h := by exact if_pos e
theorem gcW_same {d : D} {h : List Ob} {Q : D → List Ob → Prop} : gcW h.length d h Q = Q d h := by exact gcW_le (Nat.le_refl _)
theorem wp_gc (c : CR) (n : Nat) (Q : D → List Ob → Prop) (X : Exc → List Ob → Prop) : (c.gc n).wp Q X = c.wp (fun d h => gcW n d h Q) X := by
  cases c with
  | ok d h =>
    show CR.wp (if h.length ≤ n then .ok d h else if noR n d then .ok d (h.take n) else .ok d h) Q X = gcW n d h Q
    unfold gcW
    by_cases a : h.length ≤ n
    · simp only [if_pos a]; rfl
    · by_cases b : noR n d = true
      · simp only [if_neg a, if_pos b]; rfl
      · simp only [if_neg a, if_neg b]; rfl
  | _ => rfl
theorem w_run (F : Fn) (ds : List D) (Q : D → List Ob → Prop) (X : Exc → List Ob → Prop) : (runF F g ds h).wp Q X = (ds.length = F.np ∧ (F.body g ⟨start F ds, h⟩).wp ⟨fun s => gcW h.length .non s.h Q, fun d h' => gcW h.length d h' Q, fun _ => False, fun _ => False, fun x s => X x s.h⟩) := by
  unfold runF
  by_cases z : ds.length = F.np
  · simp only [z, if_true, true_and]
    rw [wp_gc]
    cases F.body g ⟨start F ds, h⟩ <;> rfl
  · simp [z, CR.wp]
/-! ### changes in place -/
/-- the list of a name -/
def lsW (x : Sl) (σ : List Sl) (i : Nat) (h : List Ob) (P : List D → (List D → (S → Prop) → Prop) → Prop) : Prop := match x with
  | .own (.lst l) => P l fun l' R => stW σ i (.own (.lst l')) fun σ => R ⟨σ, h⟩
  | .val (.ref n) => (match h[n]? with
    | some (.lst l) => P l fun l' R => R ⟨σ, h.set n (.lst l')⟩
    | _ => False)
  | _ => False
theorem lsW_own (l : List D) (i : Nat) (P) : lsW (.own (.lst l)) σ i h P = P l fun l' R => stW σ i (.own (.lst l')) fun σ => R ⟨σ, h⟩ := rfl
end
end Cy

set_option maxRecDepth 1000000
set_option linter.all false
/-! Cy: what operations on data wish. -/
namespace Cy
section
variable {P : D → Prop} {h : List Ob} {i j : Int} {x y d : D} {l m : List D} {a b : Nm}
theorem p_add : optW (dAdd (.int i) (.int j)) P = P (.int (i + j)) := rfl
theorem p_sub : optW (dSub (.int i) (.int j)) P = P (.int (i - j)) := rfl
theorem p_mul : optW (dMul (.int i) (.int j)) P = (fitI 400000 i = true ∧ fitI 400000 j = true ∧ P (.int (i * j))) := by
  show optW (if (fitI 400000 i && fitI 400000 j) = true then some (.int (i * j)) else none) P = _
  cases fitI 400000 i <;> cases fitI 400000 j <;> simp [optW]
theorem p_fdiv : optW (dFdiv (.int i) (.int j)) P = (0 < j ∧ fitI 9000 j = true ∧ P (.int (i / j))) := by
  show optW (if (decide (0 < j) && fitI 9000 j) = true then some (.int (i / j)) else none) P = _
  by_cases z : 0 < j <;> cases fitI 9000 j <;> simp [optW, z]
theorem p_mod : optW (dMod (.int i) (.int j)) P = (0 < j ∧ P (.int (i % j))) := by
  show optW (if 0 < j then some (.int (i % j)) else none) P = _
  by_cases z : 0 < j <;> simp [optW, z]
theorem p_pow : optW (dPow (.int i) (.int j)) P = (0 ≤ j ∧ j ≤ 1000000 ∧ i.natAbs < 2 ^ 64 ∧ P (.int (i ^ j.toNat))) := by
  show optW (if (decide (0 ≤ j) && decide (j ≤ 1000000) && decide (i.natAbs < 2 ^ 64)) = true then some (.int (i ^ j.toNat)) else none) P = _
  by_cases z : 0 ≤ j <;> by_cases z2 : j ≤ 1000000 <;> by_cases z3 : i.natAbs < 2 ^ 64 <;> simp [optW, z, z2, z3]
theorem p_neg : optW (dNeg (.int i)) P = P (.int (-i)) := rfl
theorem p_lt : optW (dLt (.int i) (.int j)) P = P (.bl (decide (i < j))) := rfl
theorem p_le : optW (dLe (.int i) (.int j)) P = P (.bl (decide (i ≤ j))) := rfl
theorem p_gt : optW (dGt (.int i) (.int j)) P = P (.bl (decide (j < i))) := rfl
theorem p_ge : optW (dGe (.int i) (.int j)) P = P (.bl (decide (j ≤ i))) := rfl
theorem p_int : optW (dInt (.int i)) P = P (.int i) := rfl
theorem p_intb {k : Bool} : optW (dInt (.bl k)) P = P (.int (if k = true then 1 else 0)) := rfl
theorem p_isN : optW (dIsN .non) P = P (.bl true) := rfl
theorem p_isN_int : optW (dIsN (.int i)) P = P (.bl false) := rfl
theorem p_isN_tup : optW (dIsN (.tup l)) P = P (.bl false) := rfl
theorem p_isN_str : optW (dIsN (.str a)) P = P (.bl false) := rfl
theorem p_isN_lst : optW (dIsN (.lst l)) P = P (.bl false) := rfl
theorem p_notN : optW (dNotN .non) P = P (.bl false) := rfl
theorem p_notN_int : optW (dNotN (.int i)) P = P (.bl true) := rfl
theorem p_notN_tup : optW (dNotN (.tup l)) P = P (.bl true) := rfl
theorem p_notN_str : optW (dNotN (.str a)) P = P (.bl true) := rfl
theorem p_notN_lst : optW (dNotN (.lst l)) P = P (.bl true) := rfl
theorem p_len_lst : optW (dLen h (.lst l)) P = P (.int l.length) := rfl
theorem p_len_tup : optW (dLen h (.tup l)) P = P (.int l.length) := rfl
theorem p_len_fro : optW (dLen h (.fro l)) P = P (.int l.length) := rfl
theorem p_ix_lst : optW (dIx h (.lst l) (.int i)) P = optW (atI l i) P := rfl
theorem p_ix_tup : optW (dIx h (.tup l) (.int i)) P = optW (atI l i) P := rfl
theorem p_ix_dics {l : List (K × D)} : optW (dIx h (.dic l) (.str a)) P = optW (dget l (.s a)) P := rfl
theorem p_ix_dici {l : List (K × D)} : optW (dIx h (.dic l) (.int i)) P = optW (dget l (.i i)) P := rfl
/-- a shared object -/
def obW : List Ob → Nat → (Ob → Prop) → Prop
  | [], _, _ => False
  | a :: _, 0, P => P a
  | _ :: l, n + 1, P => obW l n P
theorem obW_zero (a : Ob) (l : List Ob) (P : Ob → Prop) : obW (a :: l) 0 P = P a := rfl
theorem obW_succ (a : Ob) (l : List Ob) (n : Nat) (P : Ob → Prop) : obW (a :: l) (n + 1) P = obW l n P := rfl
theorem obW_eq (l : List Ob) (i : Nat) (P : Ob → Prop) : obW l i P = optW l[i]? P := by
  induction l generalizing i with
  | nil => rfl
  | cons a l ih => cases i with
    | zero => rfl
    | succ n => show obW l n P = _; rw [ih]; simp
def ixO (o : Ob) (y : D) (P : D → Prop) : Prop := match o with
  | .dic l => optW (ixK l y) P
  | .lst l => optW (ixL l y) P
  | .dit l => optW (ixT l y) P
theorem ixO_dics {l : List (K × D)} : ixO (.dic l) (.str a) P = optW (dget l (.s a)) P := rfl
theorem ixO_dici {l : List (K × D)} : ixO (.dic l) (.int i) P = optW (dget l (.i i)) P := rfl
theorem ixO_lst : ixO (.lst l) (.int i) P = optW (atI l i) P := rfl
theorem p_ix_ref {n : Nat} : optW (dIx h (.ref n) y) P = obW h n fun o => ixO o y P := by
  rw [obW_eq]
  show optW (match h[n]? with | some (.dic l) => ixK l y | some (.lst l) => ixL l y | some (.dit l) => ixT l y | none => none) P = _
  cases h[n]? with
  | none => rfl
  | some o => cases o <;> rfl
theorem dg_cons {κ : Type} [DecidableEq κ] {k k' : κ} {r : List (κ × D)} : optW (dget ((k', d) :: r) k) P = (if k' = k then P d else optW (dget r k) P) := by
  show optW (if k' = k then some d else dget r k) P = _
  by_cases z : k' = k <;> simp [z, optW]
theorem dget_dput {κ : Type} [DecidableEq κ] (l : List (κ × D)) (j k : κ) (v : D) : dget (dput l j v) k = if j = k then some v else dget l k := by
  unfold dput
  split
  · rename_i hp
    have key : ∀ m : List (κ × D), dget (m.map fun p => if p.1 = j then (p.1, v) else p) k = if j = k then (if (m.any fun p => decide (p.1 = j)) = true then some v else none) else dget m k := by
      intro m
      induction m with
      | nil => by_cases z : j = k <;> simp [dget, z]
      | cons p m ih =>
        obtain ⟨q, e⟩ := p
        by_cases z : q = j
        · subst z
          by_cases y : q = k <;> simp [dget, y, ih]
        · by_cases y : j = k
          · subst y
            simp [dget, z, ih]
            congr 1
            rw [eq_iff_iff, Bool.or_eq_true, decide_eq_true_eq]
            exact ⟨fun y => Or.inr y, fun y => y.resolve_left z⟩
          · simp only [List.map_cons, z, if_false, dget, ih, y]
    rw [key]
    by_cases z : j = k
    · simp only [z, if_true]; rw [← z]; simp [hp]
    · simp [z]
  · rename_i hp
    have key : ∀ m : List (κ × D), dget (m ++ [(j, v)]) k = match dget m k with | some d => some d | none => if j = k then some v else none := by
      intro m
      induction m with
      | nil => rfl
      | cons p m ih =>
        obtain ⟨q, e⟩ := p
        by_cases y : q = k <;> simp [dget, y, ih]
    rw [key]
    by_cases z : j = k
    · subst z
      have none_of : ∀ m : List (κ × D), ¬ (m.any fun p => decide (p.1 = j)) = true → dget m j = none := by
        intro m
        induction m with
        | nil => intro _; rfl
        | cons p m ih =>
          intro hm
          obtain ⟨q, e⟩ := p
          rw [List.any_cons, Bool.or_eq_true, not_or, decide_eq_true_eq] at hm
          have h1 : ¬ q = j := hm.1
          simp only [dget, h1, if_false]
          exact ih hm.2
      have := none_of l hp
      simp [this]
    · simp only [z, if_false]
      cases dget l k <;> rfl
theorem dg_dput {κ : Type} [DecidableEq κ] {l : List (κ × D)} {j k : κ} {v : D} : optW (dget (dput l j v) k) P = (if j = k then P v else optW (dget l k) P) := by
  rw [dget_dput]
  by_cases z : j = k <;> simp [z, optW]
theorem dput_len {κ : Type} [DecidableEq κ] (l : List (κ × D)) (j : κ) (v : D) : (dput l j v).length ≤ l.length + 1 := by
  unfold dput
  split <;> simp
end
/-! ### x[k] = v -/
section
variable {g : G} {σ : List Sl} {h : List Ob} {s : S} {K : En} {P : S → Prop} {a : Nm}
def ptW (s : S) (i : Nat) (k v : D) (P : S → Prop) : Prop := optW (put s i k v) P
/-- a shared object is set -/
def stO : List Ob → Nat → Ob → (List Ob → Prop) → Prop
  | [], _, _, P => P []
  | _ :: l, 0, v, P => P (v :: l)
  | a :: l, n + 1, v, P => stO l n v fun l => P (a :: l)
theorem stO_zero (a : Ob) (l : List Ob) (v : Ob) (P : List Ob → Prop) : stO (a :: l) 0 v P = P (v :: l) := rfl
theorem stO_succ (a : Ob) (l : List Ob) (n : Nat) (v : Ob) (P : List Ob → Prop) : stO (a :: l) (n + 1) v P = stO l n v fun l => P (a :: l) := rfl
theorem stO_eq (l : List Ob) (i : Nat) (v : Ob) (P : List Ob → Prop) : stO l i v P = P (l.set i v) := by
  induction l generalizing i P with
  | nil => rfl
  | cons a l ih => cases i with
    | zero => rfl
    | succ n => show stO l n v _ = _; rw [ih]; rfl
def ptS (x : Sl) (σ : List Sl) (i : Nat) (h : List Ob) (k v : D) (P : S → Prop) : Prop := match x with
  | .own d => optW (putD d k v) fun d => stW σ i (.own d) fun σ => P ⟨σ, h⟩
  | .val (.ref n) => obW h n fun o => noR 0 v = true ∧ optW (putO o k v) fun o => stO h n o fun h => P ⟨σ, h⟩
  | _ => False
theorem ptS_own (d : D) (i : Nat) (k v : D) : ptS (.own d) σ i h k v P = optW (putD d k v) fun d => stW σ i (.own d) fun σ => P ⟨σ, h⟩ := rfl
theorem ptS_ref (n i : Nat) (k v : D) : ptS (.val (.ref n)) σ i h k v P = obW h n fun o => noR 0 v = true ∧ optW (putO o k v) fun o => stO h n o fun h => P ⟨σ, h⟩ := rfl
theorem ptW_eq (i : Nat) (k v : D) : ptW ⟨σ, h⟩ i k v P = slW σ i fun x => ptS x σ i h k v P := by
  rw [slW_eq]
  unfold ptW put
  cases q : σ[i]? with
  | none => simp only [q]; rfl
  | some x =>
    simp only [q, optW_some]
    have hi := (List.getElem?_eq_some_iff.mp q).1
    cases x with
    | no => rfl
    | own d =>
      show optW (match putD d k v with | some d => some _ | none => none) P = optW (putD d k v) _
      cases putD d k v with
      | none => rfl
      | some d => show P _ = stW σ i _ _; rw [stW_eq]; simp [hi]
    | val d =>
      cases d with
      | ref n =>
        show optW (match h[n]? with | some o => if noR 0 v = true then (match putO o k v with | some o => some (setOb ⟨σ, h⟩ n o) | none => none) else none | none => none) P = obW h n _
        rw [obW_eq]
        cases h[n]? with
        | none => rfl
        | some o =>
          show optW (if noR 0 v = true then (match putO o k v with | some o => some (setOb ⟨σ, h⟩ n o) | none => none) else none) P = (noR 0 v = true ∧ optW (putO o k v) _)
          by_cases nv : noR 0 v = true
          · rw [if_pos nv]
            simp only [nv, true_and]
            cases putO o k v with
            | none => rfl
            | some o => show P _ = stO h n _ _; rw [stO_eq]; rfl
          · rw [if_neg nv]
            simp [nv, optW]
      | _ => rfl
theorem w_putS (i : Nat) (k e : Ex) : (putS i k e g s).wp K = (e g s).wp (fun v s => ((Op.pk i).ev g s).wp (fun _ s => (k g s).wp (fun k s => ptW s i k v K.nx) K.ex) fun _ _ => False) K.ex := by
  unfold putS
  cases e g s with
  | ok v s =>
    show Fl.wp (match evP i s with | .ok _ s => _ | _ => .bad) K = Res.wp (evP i s) _ _
    cases evP i s with
    | ok u s =>
      show Fl.wp (match k g s with | .ok k s => _ | .bad => .bad | .exc x h => .exc x h) K = Res.wp (k g s) _ _
      cases k g s with
      | ok k s =>
        show Fl.wp (match put s i k v with | some s => .nx s | none => .bad) K = optW (put s i k v) K.nx
        cases put s i k v <;> rfl
      | _ => rfl
    | _ => rfl
  | _ => rfl
theorem ptO_dics {l : List (Cy.K × D)} {v : D} {P : Ob → Prop} : optW (putO (.dic l) (.str a) v) P = (l.length < lim ∧ P (.dic (dput l (.s a) v))) := by
  show optW (if l.length < lim then some _ else none) P = _
  by_cases z : l.length < lim <;> simp [z, optW]
theorem ptD_dics {l : List (Cy.K × D)} {v : D} {P : D → Prop} : optW (putD (.dic l) (.str a) v) P = (l.length < lim ∧ P (.dic (dput l (.s a) v))) := by
  show optW (if l.length < lim then some _ else none) P = _
  by_cases z : l.length < lim <;> simp [z, optW]
theorem ptD_dici {l : List (Cy.K × D)} {v : D} {j : Int} {P : D → Prop} : optW (putD (.dic l) (.int j) v) P = (l.length < lim ∧ P (.dic (dput l (.i j) v))) := by
  show optW (if l.length < lim then some _ else none) P = _
  by_cases z : l.length < lim <;> simp [z, optW]
end
theorem CR.wp_mono {c : CR} {Q Q' : D → List Ob → Prop} {E E' : Exc → List Ob → Prop} (w : c.wp Q E) (q : ∀ d h, Q d h → Q' d h) (e : ∀ x h, E x h → E' x h) : c.wp Q' E' := by
  cases c with
  | bad => exact w
  | ok d h => exact q d h w
  | exc x h => exact e x h w
theorem CR.wp_ok {c : CR} {P : D → List Ob → Prop} (w : c.wp P fun _ _ => False) : ∃ d h, c = .ok d h ∧ P d h := by
  cases c with
  | bad => exact w.elim
  | ok d h => exact ⟨d, h, rfl, w⟩
  | exc x h => exact w.elim
end Cy

set_option maxRecDepth 1000000
set_option linter.all false
/-! Cy: the wishes, closed (the kernel does not look into them). -/
namespace Cy
/-- what simp is not to look into -/
inductive Dep {α : Sort _} (a : α) : Type
  | mk : Dep a
structure Res.Wp {α : Type} (r : Res α) (Q : α → S → Prop) (E : Exc → S → Prop) (_u : Dep Q := .mk) : Prop where
  out : r.wp Q E
structure Fl.Wp (f : Fl) (K : En) (_u : Dep K := .mk) : Prop where
  out : f.wp K
structure CR.Wp (c : CR) (Q : D → List Ob → Prop) (E : Exc → List Ob → Prop) (_u : Dep Q := .mk) : Prop where
  out : c.wp Q E
structure OptW {β : Type} (o : Option β) (Q : β → Prop) (_u : Dep Q := .mk) : Prop where
  out : optW o Q
structure SlW (l : List Sl) (i : Nat) (P : Sl → Prop) (_u : Dep P := .mk) : Prop where
  out : slW l i P
structure VlW (x : Sl) (P : D → Prop) (_u : Dep P := .mk) : Prop where
  out : vlW x P
structure StW (l : List Sl) (i : Nat) (v : Sl) (P : List Sl → Prop) (_u : Dep P := .mk) : Prop where
  out : stW l i v P
structure VarW (x : Sl) (σ : List Sl) (i : Nat) (h : List Ob) (Q : D → S → Prop) (_u : Dep Q := .mk) : Prop where
  out : varW x σ i h Q
structure LiveW (x : Sl) (P : Prop) (_u : Dep P := .mk) : Prop where
  out : liveW x P
structure RdW (a : Op) (x : D) (s : S) (P : D → Prop) (_u : Dep P := .mk) : Prop where
  out : rdW a x s P
structure BlW (x : D) (P : Bool → Prop) (_u : Dep P := .mk) : Prop where
  out : blW x P
structure IntW (x : D) (P : Int → Prop) (_u : Dep P := .mk) : Prop where
  out : intW x P
structure PartW (o : Option Ex) (g : G) (s : S) (P : Option Int → S → Prop) (E : Exc → S → Prop) (_u : Dep P := .mk) : Prop where
  out : partW o g s P E
structure TgW (tg : Tg) (d : D) (s : S) (P : S → Prop) (_u : Dep P := .mk) : Prop where
  out : tgW tg d s P
structure TgsW (ts : List Tg) (ds : List D) (s : S) (P : S → Prop) (_u : Dep P := .mk) : Prop where
  out : tgsW ts ds s P
structure ObW (l : List Ob) (i : Nat) (P : Ob → Prop) (_u : Dep P := .mk) : Prop where
  out : obW l i P
structure IxO (o : Ob) (y : D) (P : D → Prop) (_u : Dep P := .mk) : Prop where
  out : ixO o y P
structure PtW (s : S) (i : Nat) (k v : D) (P : S → Prop) (_u : Dep P := .mk) : Prop where
  out : ptW s i k v P
structure StO (l : List Ob) (i : Nat) (v : Ob) (P : List Ob → Prop) (_u : Dep P := .mk) : Prop where
  out : stO l i v P
structure GcW (n : Nat) (d : D) (h : List Ob) (Q : D → List Ob → Prop) (_u : Dep Q := .mk) : Prop where
  out : gcW n d h Q
structure PtS (x : Sl) (σ : List Sl) (i : Nat) (h : List Ob) (k v : D) (P : S → Prop) (_u : Dep P := .mk) : Prop where
  out : ptS x σ i h k v P
theorem ResWp_eq {α : Type} (r : Res α) (Q : α → S → Prop) (E : Exc → S → Prop) : Res.Wp r Q E = r.wp Q E := propext ⟨fun h => h.out, fun h => ⟨h⟩⟩
theorem FlWp_eq (f : Fl) (K : En) : Fl.Wp f K = f.wp K := propext ⟨fun h => h.out, fun h => ⟨h⟩⟩
theorem CRWp_eq (c : CR) (Q : D → List Ob → Prop) (E : Exc → List Ob → Prop) : CR.Wp c Q E = c.wp Q E := propext ⟨fun h => h.out, fun h => ⟨h⟩⟩
theorem OptW_eq {β : Type} (o : Option β) (Q : β → Prop) : OptW o Q = optW o Q := propext ⟨fun h => h.out, fun h => ⟨h⟩⟩
theorem SlW_eq (l : List Sl) (i : Nat) (P : Sl → Prop) : SlW l i P = slW l i P := propext ⟨fun h => h.out, fun h => ⟨h⟩⟩
theorem VlW_eq (x : Sl) (P : D → Prop) : VlW x P = vlW x P := propext ⟨fun h => h.out, fun h => ⟨h⟩⟩
theorem StW_eq (l : List Sl) (i : Nat) (v : Sl) (P : List Sl → Prop) : StW l i v P = stW l i v P := propext ⟨fun h => h.out, fun h => ⟨h⟩⟩
theorem VarW_eq (x : Sl) (σ : List Sl) (i : Nat) (h : List Ob) (Q : D → S → Prop) : VarW x σ i h Q = varW x σ i h Q := propext ⟨fun h => h.out, fun h => ⟨h⟩⟩
theorem LiveW_eq (x : Sl) (P : Prop) : LiveW x P = liveW x P := propext ⟨fun h => h.out, fun h => ⟨h⟩⟩
theorem RdW_eq (a : Op) (x : D) (s : S) (P : D → Prop) : RdW a x s P = rdW a x s P := propext ⟨fun h => h.out, fun h => ⟨h⟩⟩
theorem BlW_eq (x : D) (P : Bool → Prop) : BlW x P = blW x P := propext ⟨fun h => h.out, fun h => ⟨h⟩⟩
theorem IntW_eq (x : D) (P : Int → Prop) : IntW x P = intW x P := propext ⟨fun h => h.out, fun h => ⟨h⟩⟩
theorem PartW_eq (o : Option Ex) (g : G) (s : S) (P : Option Int → S → Prop) (E : Exc → S → Prop) : PartW o g s P E = partW o g s P E := propext ⟨fun h => h.out, fun h => ⟨h⟩⟩
theorem TgW_eq (tg : Tg) (d : D) (s : S) (P : S → Prop) : TgW tg d s P = tgW tg d s P := propext ⟨fun h => h.out, fun h => ⟨h⟩⟩
theorem TgsW_eq (ts : List Tg) (ds : List D) (s : S) (P : S → Prop) : TgsW ts ds s P = tgsW ts ds s P := propext ⟨fun h => h.out, fun h => ⟨h⟩⟩
theorem ObW_eq (l : List Ob) (i : Nat) (P : Ob → Prop) : ObW l i P = obW l i P := propext ⟨fun h => h.out, fun h => ⟨h⟩⟩
theorem IxO_eq (o : Ob) (y : D) (P : D → Prop) : IxO o y P = ixO o y P := propext ⟨fun h => h.out, fun h => ⟨h⟩⟩
theorem PtW_eq (s : S) (i : Nat) (k v : D) (P : S → Prop) : PtW s i k v P = ptW s i k v P := propext ⟨fun h => h.out, fun h => ⟨h⟩⟩
theorem StO_eq (l : List Ob) (i : Nat) (v : Ob) (P : List Ob → Prop) : StO l i v P = stO l i v P := propext ⟨fun h => h.out, fun h => ⟨h⟩⟩
theorem GcW_eq (n : Nat) (d : D) (h : List Ob) (Q : D → List Ob → Prop) : GcW n d h Q = gcW n d h Q := propext ⟨fun h => h.out, fun h => ⟨h⟩⟩
theorem PtS_eq (x : Sl) (σ : List Sl) (i : Nat) (h : List Ob) (k v : D) (P : S → Prop) : PtS x σ i h k v P = ptS x σ i h k v P := propext ⟨fun h => h.out, fun h => ⟨h⟩⟩
section
variable {α β : Type}
variable {Q : α → S → Prop} {E : Exc → S → Prop} {g : G} {s : S} {K : En}
theorem wp_ok1 (a : α) : (Res.ok a s).Wp Q E = Q a s := by
  simp only [ResWp_eq, FlWp_eq, CRWp_eq, OptW_eq, SlW_eq, VlW_eq, StW_eq, VarW_eq, LiveW_eq, RdW_eq, BlW_eq, IntW_eq, PartW_eq, TgW_eq, TgsW_eq, ObW_eq, IxO_eq, PtW_eq, StO_eq, GcW_eq, PtS_eq]
  first | exact wp_ok | (simp only [wp_ok])
theorem optW_some1 (a : β) (Q : β → Prop) : OptW (some a) Q = Q a := by
  simp only [ResWp_eq, FlWp_eq, CRWp_eq, OptW_eq, SlW_eq, VlW_eq, StW_eq, VarW_eq, LiveW_eq, RdW_eq, BlW_eq, IntW_eq, PartW_eq, TgW_eq, TgsW_eq, ObW_eq, IxO_eq, PtW_eq, StO_eq, GcW_eq, PtS_eq]
  first | exact optW_some | (simp only [optW_some])
theorem optW_none1 (Q : β → Prop) : OptW none Q = False := by
  simp only [ResWp_eq, FlWp_eq, CRWp_eq, OptW_eq, SlW_eq, VlW_eq, StW_eq, VarW_eq, LiveW_eq, RdW_eq, BlW_eq, IntW_eq, PartW_eq, TgW_eq, TgsW_eq, ObW_eq, IxO_eq, PtW_eq, StO_eq, GcW_eq, PtS_eq]
  first | exact optW_none | (simp only [optW_none])
theorem slW_zero1 (a : Sl) (l : List Sl) (P : Sl → Prop) : SlW (a :: l) 0 P = P a := by
  simp only [ResWp_eq, FlWp_eq, CRWp_eq, OptW_eq, SlW_eq, VlW_eq, StW_eq, VarW_eq, LiveW_eq, RdW_eq, BlW_eq, IntW_eq, PartW_eq, TgW_eq, TgsW_eq, ObW_eq, IxO_eq, PtW_eq, StO_eq, GcW_eq, PtS_eq]
  first | exact slW_zero | (simp only [slW_zero])
theorem slW_succ1 (a : Sl) (l : List Sl) (n : Nat) (P : Sl → Prop) : SlW (a :: l) (n + 1) P = SlW l n P := by
  simp only [ResWp_eq, FlWp_eq, CRWp_eq, OptW_eq, SlW_eq, VlW_eq, StW_eq, VarW_eq, LiveW_eq, RdW_eq, BlW_eq, IntW_eq, PartW_eq, TgW_eq, TgsW_eq, ObW_eq, IxO_eq, PtW_eq, StO_eq, GcW_eq, PtS_eq]
  first | exact slW_succ | (simp only [slW_succ])
theorem vlW_val1 (d : D) (P : D → Prop) : VlW (.val d) P = P d := by
  simp only [ResWp_eq, FlWp_eq, CRWp_eq, OptW_eq, SlW_eq, VlW_eq, StW_eq, VarW_eq, LiveW_eq, RdW_eq, BlW_eq, IntW_eq, PartW_eq, TgW_eq, TgsW_eq, ObW_eq, IxO_eq, PtW_eq, StO_eq, GcW_eq, PtS_eq]
  first | exact vlW_val | (simp only [vlW_val])
theorem vlW_own1 (d : D) (P : D → Prop) : VlW (.own d) P = P d := by
  simp only [ResWp_eq, FlWp_eq, CRWp_eq, OptW_eq, SlW_eq, VlW_eq, StW_eq, VarW_eq, LiveW_eq, RdW_eq, BlW_eq, IntW_eq, PartW_eq, TgW_eq, TgsW_eq, ObW_eq, IxO_eq, PtW_eq, StO_eq, GcW_eq, PtS_eq]
  first | exact vlW_own | (simp only [vlW_own])
theorem stW_zero1 (a : Sl) (l : List Sl) (v : Sl) (P : List Sl → Prop) : StW (a :: l) 0 v P = P (v :: l) := by
  simp only [ResWp_eq, FlWp_eq, CRWp_eq, OptW_eq, SlW_eq, VlW_eq, StW_eq, VarW_eq, LiveW_eq, RdW_eq, BlW_eq, IntW_eq, PartW_eq, TgW_eq, TgsW_eq, ObW_eq, IxO_eq, PtW_eq, StO_eq, GcW_eq, PtS_eq]
  first | exact stW_zero | (simp only [stW_zero])
theorem stW_succ1 (a : Sl) (l : List Sl) (n : Nat) (v : Sl) (P : List Sl → Prop) : StW (a :: l) (n + 1) v P = StW l n v fun l => P (a :: l) := by
  simp only [ResWp_eq, FlWp_eq, CRWp_eq, OptW_eq, SlW_eq, VlW_eq, StW_eq, VarW_eq, LiveW_eq, RdW_eq, BlW_eq, IntW_eq, PartW_eq, TgW_eq, TgsW_eq, ObW_eq, IxO_eq, PtW_eq, StO_eq, GcW_eq, PtS_eq]
  first | exact stW_succ | (simp only [stW_succ])
end
section
variable {α β : Type} {g : G} {σ : List Sl} {h : List Ob} {s : S} {E : Exc → S → Prop} {K : En}
section
variable {Q : D → S → Prop}
theorem varW_val1 (d : D) (i : Nat) : VarW (.val d) σ i h Q = Q d ⟨σ, h⟩ := by
  simp only [ResWp_eq, FlWp_eq, CRWp_eq, OptW_eq, SlW_eq, VlW_eq, StW_eq, VarW_eq, LiveW_eq, RdW_eq, BlW_eq, IntW_eq, PartW_eq, TgW_eq, TgsW_eq, ObW_eq, IxO_eq, PtW_eq, StO_eq, GcW_eq, PtS_eq]
  first | exact varW_val | (simp only [varW_val])
theorem varW_own1 (d : D) (i : Nat) : VarW (.own d) σ i h Q = StW σ i (.val d) fun σ' => Q d ⟨σ', h⟩ := by
  simp only [ResWp_eq, FlWp_eq, CRWp_eq, OptW_eq, SlW_eq, VlW_eq, StW_eq, VarW_eq, LiveW_eq, RdW_eq, BlW_eq, IntW_eq, PartW_eq, TgW_eq, TgsW_eq, ObW_eq, IxO_eq, PtW_eq, StO_eq, GcW_eq, PtS_eq]
  first | exact varW_own | (simp only [varW_own])
theorem w_var1 (i : Nat) : (var i g ⟨σ, h⟩).Wp Q E = SlW σ i fun x => VarW x σ i h Q := by
  simp only [ResWp_eq, FlWp_eq, CRWp_eq, OptW_eq, SlW_eq, VlW_eq, StW_eq, VarW_eq, LiveW_eq, RdW_eq, BlW_eq, IntW_eq, PartW_eq, TgW_eq, TgsW_eq, ObW_eq, IxO_eq, PtW_eq, StO_eq, GcW_eq, PtS_eq]
  first | exact w_var | (simp only [w_var])
theorem w_cst1 (d : D) : (cst d g s).Wp Q E = Q d s := by
  simp only [ResWp_eq, FlWp_eq, CRWp_eq, OptW_eq, SlW_eq, VlW_eq, StW_eq, VarW_eq, LiveW_eq, RdW_eq, BlW_eq, IntW_eq, PartW_eq, TgW_eq, TgsW_eq, ObW_eq, IxO_eq, PtW_eq, StO_eq, GcW_eq, PtS_eq]
  first | exact w_cst | (simp only [w_cst])
theorem liveW_val1 (d : D) (P : Prop) : LiveW (.val d) P = P := by
  simp only [ResWp_eq, FlWp_eq, CRWp_eq, OptW_eq, SlW_eq, VlW_eq, StW_eq, VarW_eq, LiveW_eq, RdW_eq, BlW_eq, IntW_eq, PartW_eq, TgW_eq, TgsW_eq, ObW_eq, IxO_eq, PtW_eq, StO_eq, GcW_eq, PtS_eq]
  first | exact liveW_val | (simp only [liveW_val])
theorem liveW_own1 (d : D) (P : Prop) : LiveW (.own d) P = P := by
  simp only [ResWp_eq, FlWp_eq, CRWp_eq, OptW_eq, SlW_eq, VlW_eq, StW_eq, VarW_eq, LiveW_eq, RdW_eq, BlW_eq, IntW_eq, PartW_eq, TgW_eq, TgsW_eq, ObW_eq, IxO_eq, PtW_eq, StO_eq, GcW_eq, PtS_eq]
  first | exact liveW_own | (simp only [liveW_own])
theorem w_pk1 (i : Nat) : ((Op.pk i).ev g ⟨σ, h⟩).Wp Q E = SlW σ i fun x => LiveW x (Q .non ⟨σ, h⟩) := by
  simp only [ResWp_eq, FlWp_eq, CRWp_eq, OptW_eq, SlW_eq, VlW_eq, StW_eq, VarW_eq, LiveW_eq, RdW_eq, BlW_eq, IntW_eq, PartW_eq, TgW_eq, TgsW_eq, ObW_eq, IxO_eq, PtW_eq, StO_eq, GcW_eq, PtS_eq]
  first | exact w_pk | (simp only [w_pk])
theorem w_ex1 (e : Ex) : ((Op.ex e).ev g s).Wp Q E = (e g s).Wp Q E := by
  simp only [ResWp_eq, FlWp_eq, CRWp_eq, OptW_eq, SlW_eq, VlW_eq, StW_eq, VarW_eq, LiveW_eq, RdW_eq, BlW_eq, IntW_eq, PartW_eq, TgW_eq, TgsW_eq, ObW_eq, IxO_eq, PtW_eq, StO_eq, GcW_eq, PtS_eq]
  first | exact w_ex | (simp only [w_ex])
theorem rdW_pk1 (i : Nat) (x : D) (P : D → Prop) : RdW (.pk i) x ⟨σ, h⟩ P = SlW σ i fun x => VlW x P := by
  simp only [ResWp_eq, FlWp_eq, CRWp_eq, OptW_eq, SlW_eq, VlW_eq, StW_eq, VarW_eq, LiveW_eq, RdW_eq, BlW_eq, IntW_eq, PartW_eq, TgW_eq, TgsW_eq, ObW_eq, IxO_eq, PtW_eq, StO_eq, GcW_eq, PtS_eq]
  first | exact rdW_pk | (simp only [rdW_pk])
theorem rdW_ex1 (e : Ex) (x : D) (P : D → Prop) : RdW (.ex e) x s P = P x := by
  simp only [ResWp_eq, FlWp_eq, CRWp_eq, OptW_eq, SlW_eq, VlW_eq, StW_eq, VarW_eq, LiveW_eq, RdW_eq, BlW_eq, IntW_eq, PartW_eq, TgW_eq, TgsW_eq, ObW_eq, IxO_eq, PtW_eq, StO_eq, GcW_eq, PtS_eq]
  first | exact rdW_ex | (simp only [rdW_ex])
theorem w_o11 (f : List Ob → D → Option D) (a : Op) : (o1 f a g s).Wp Q E = (a.ev g s).Wp (fun x s => RdW a x s fun d => OptW (f s.h d) fun r => Q r s) E := by
  simp only [ResWp_eq, FlWp_eq, CRWp_eq, OptW_eq, SlW_eq, VlW_eq, StW_eq, VarW_eq, LiveW_eq, RdW_eq, BlW_eq, IntW_eq, PartW_eq, TgW_eq, TgsW_eq, ObW_eq, IxO_eq, PtW_eq, StO_eq, GcW_eq, PtS_eq]
  first | exact w_o1 | (simp only [w_o1])
theorem w_o21 (f : List Ob → D → D → Option D) (a b : Op) : (o2 f a b g s).Wp Q E = (a.ev g s).Wp (fun x s => (b.ev g s).Wp (fun y s => RdW a x s fun d => RdW b y s fun e => OptW (f s.h d e) fun r => Q r s) E) E := by
  simp only [ResWp_eq, FlWp_eq, CRWp_eq, OptW_eq, SlW_eq, VlW_eq, StW_eq, VarW_eq, LiveW_eq, RdW_eq, BlW_eq, IntW_eq, PartW_eq, TgW_eq, TgsW_eq, ObW_eq, IxO_eq, PtW_eq, StO_eq, GcW_eq, PtS_eq]
  first | exact w_o2 | (simp only [w_o2])
theorem w_get1 (a b : Op) (c : Ex) : (getE a b c g s).Wp Q E = (a.ev g s).Wp (fun x s => RdW a x s fun d0 => isDic s.h d0 = true ∧ (b.ev g s).Wp (fun y s => (c g s).Wp (fun u s => RdW a x s fun d => RdW b y s fun e => OptW (dGet s.h d e u) fun r => Q r s) E) E) E := by
  simp only [ResWp_eq, FlWp_eq, CRWp_eq, OptW_eq, SlW_eq, VlW_eq, StW_eq, VarW_eq, LiveW_eq, RdW_eq, BlW_eq, IntW_eq, PartW_eq, TgW_eq, TgsW_eq, ObW_eq, IxO_eq, PtW_eq, StO_eq, GcW_eq, PtS_eq]
  first | exact w_get | (simp only [w_get])
theorem blW_bl1 (b : Bool) (P : Bool → Prop) : BlW (.bl b) P = P b := by
  simp only [ResWp_eq, FlWp_eq, CRWp_eq, OptW_eq, SlW_eq, VlW_eq, StW_eq, VarW_eq, LiveW_eq, RdW_eq, BlW_eq, IntW_eq, PartW_eq, TgW_eq, TgsW_eq, ObW_eq, IxO_eq, PtW_eq, StO_eq, GcW_eq, PtS_eq]
  first | exact blW_bl | (simp only [blW_bl])
theorem w_and1 (a b : Ex) : (eAnd a b g s).Wp Q E = (a g s).Wp (fun x s => BlW x fun k => if k = true then (b g s).Wp Q E else Q (.bl false) s) E := by
  simp only [ResWp_eq, FlWp_eq, CRWp_eq, OptW_eq, SlW_eq, VlW_eq, StW_eq, VarW_eq, LiveW_eq, RdW_eq, BlW_eq, IntW_eq, PartW_eq, TgW_eq, TgsW_eq, ObW_eq, IxO_eq, PtW_eq, StO_eq, GcW_eq, PtS_eq]
  first | exact w_and | (simp only [w_and])
theorem w_or1 (a b : Ex) : (eOr a b g s).Wp Q E = (a g s).Wp (fun x s => BlW x fun k => if k = true then Q (.bl true) s else (b g s).Wp Q E) E := by
  simp only [ResWp_eq, FlWp_eq, CRWp_eq, OptW_eq, SlW_eq, VlW_eq, StW_eq, VarW_eq, LiveW_eq, RdW_eq, BlW_eq, IntW_eq, PartW_eq, TgW_eq, TgsW_eq, ObW_eq, IxO_eq, PtW_eq, StO_eq, GcW_eq, PtS_eq]
  first | exact w_or | (simp only [w_or])
theorem w_not1 (a : Ex) : (eNot a g s).Wp Q E = (a g s).Wp (fun x s => BlW x fun k => Q (.bl (!k)) s) E := by
  simp only [ResWp_eq, FlWp_eq, CRWp_eq, OptW_eq, SlW_eq, VlW_eq, StW_eq, VarW_eq, LiveW_eq, RdW_eq, BlW_eq, IntW_eq, PartW_eq, TgW_eq, TgsW_eq, ObW_eq, IxO_eq, PtW_eq, StO_eq, GcW_eq, PtS_eq]
  first | exact w_not | (simp only [w_not])
theorem w_ite1 (t : Tx) (a b : Ex) : (eIf t a b g s).Wp Q E = (t g s).Wp (fun c s => if c = true then (a g s).Wp Q E else (b g s).Wp Q E) E := by
  simp only [ResWp_eq, FlWp_eq, CRWp_eq, OptW_eq, SlW_eq, VlW_eq, StW_eq, VarW_eq, LiveW_eq, RdW_eq, BlW_eq, IntW_eq, PartW_eq, TgW_eq, TgsW_eq, ObW_eq, IxO_eq, PtW_eq, StO_eq, GcW_eq, PtS_eq]
  first | exact w_ite | (simp only [w_ite])
theorem w_chain1 (f f' : D → D → Option D) (a b c : Ex) : (eChain f f' a b c g s).Wp Q E = (a g s).Wp (fun x s => (b g s).Wp (fun y s => OptW (f x y) fun r => BlW r fun k => if k = true then (c g s).Wp (fun z s => OptW (f' y z) fun r => Q r s) E else Q (.bl false) s) E) E := by
  simp only [ResWp_eq, FlWp_eq, CRWp_eq, OptW_eq, SlW_eq, VlW_eq, StW_eq, VarW_eq, LiveW_eq, RdW_eq, BlW_eq, IntW_eq, PartW_eq, TgW_eq, TgsW_eq, ObW_eq, IxO_eq, PtW_eq, StO_eq, GcW_eq, PtS_eq]
  first | exact w_chain | (simp only [w_chain])
theorem intW_int1 (b : Int) (P : Int → Prop) : IntW (.int b) P = P b := by
  simp only [ResWp_eq, FlWp_eq, CRWp_eq, OptW_eq, SlW_eq, VlW_eq, StW_eq, VarW_eq, LiveW_eq, RdW_eq, BlW_eq, IntW_eq, PartW_eq, TgW_eq, TgsW_eq, ObW_eq, IxO_eq, PtW_eq, StO_eq, GcW_eq, PtS_eq]
  first | exact intW_int | (simp only [intW_int])
theorem partW_none1 (P : Option Int → S → Prop) : PartW none g s P E = P none s := by
  simp only [ResWp_eq, FlWp_eq, CRWp_eq, OptW_eq, SlW_eq, VlW_eq, StW_eq, VarW_eq, LiveW_eq, RdW_eq, BlW_eq, IntW_eq, PartW_eq, TgW_eq, TgsW_eq, ObW_eq, IxO_eq, PtW_eq, StO_eq, GcW_eq, PtS_eq]
  first | exact partW_none | (simp only [partW_none])
theorem partW_some1 (e : Ex) (P : Option Int → S → Prop) : PartW (some e) g s P E = (e g s).Wp (fun x s => IntW x fun i => P (some i) s) E := by
  simp only [ResWp_eq, FlWp_eq, CRWp_eq, OptW_eq, SlW_eq, VlW_eq, StW_eq, VarW_eq, LiveW_eq, RdW_eq, BlW_eq, IntW_eq, PartW_eq, TgW_eq, TgsW_eq, ObW_eq, IxO_eq, PtW_eq, StO_eq, GcW_eq, PtS_eq]
  first | exact partW_some | (simp only [partW_some])
theorem w_cut1 (a : Op) (lo hi : Option Ex) : (cutE a lo hi g s).Wp Q E = (a.ev g s).Wp (fun x s => PartW lo g s (fun l s => PartW hi g s (fun u s => RdW a x s fun d => OptW (dCut d l u) fun r => Q r s) E) E) E := by
  simp only [ResWp_eq, FlWp_eq, CRWp_eq, OptW_eq, SlW_eq, VlW_eq, StW_eq, VarW_eq, LiveW_eq, RdW_eq, BlW_eq, IntW_eq, PartW_eq, TgW_eq, TgsW_eq, ObW_eq, IxO_eq, PtW_eq, StO_eq, GcW_eq, PtS_eq]
  first | exact w_cut | (simp only [w_cut])
theorem w_tup1 (a : Ax) : (tupE a g s).Wp Q E = (a g s).Wp (fun l s => l.length ≤ lim ∧ Q (.tup l) s) E := by
  simp only [ResWp_eq, FlWp_eq, CRWp_eq, OptW_eq, SlW_eq, VlW_eq, StW_eq, VarW_eq, LiveW_eq, RdW_eq, BlW_eq, IntW_eq, PartW_eq, TgW_eq, TgsW_eq, ObW_eq, IxO_eq, PtW_eq, StO_eq, GcW_eq, PtS_eq]
  first | exact w_tup | (simp only [w_tup])
theorem w_lst1 (a : Ax) : (lstE a g s).Wp Q E = (a g s).Wp (fun l s => l.length ≤ lim ∧ Q (.lst l) s) E := by
  simp only [ResWp_eq, FlWp_eq, CRWp_eq, OptW_eq, SlW_eq, VlW_eq, StW_eq, VarW_eq, LiveW_eq, RdW_eq, BlW_eq, IntW_eq, PartW_eq, TgW_eq, TgsW_eq, ObW_eq, IxO_eq, PtW_eq, StO_eq, GcW_eq, PtS_eq]
  first | exact w_lst | (simp only [w_lst])
end
section
variable {Q : Bool → S → Prop}
theorem w_tE1 (e : Ex) : (tE e g s).Wp Q E = (e g s).Wp (fun x s => BlW x fun k => Q k s) E := by
  simp only [ResWp_eq, FlWp_eq, CRWp_eq, OptW_eq, SlW_eq, VlW_eq, StW_eq, VarW_eq, LiveW_eq, RdW_eq, BlW_eq, IntW_eq, PartW_eq, TgW_eq, TgsW_eq, ObW_eq, IxO_eq, PtW_eq, StO_eq, GcW_eq, PtS_eq]
  first | exact w_tE | (simp only [w_tE])
theorem w_tNot1 (t : Tx) : (tNot t g s).Wp Q E = (t g s).Wp (fun b s => Q (!b) s) E := by
  simp only [ResWp_eq, FlWp_eq, CRWp_eq, OptW_eq, SlW_eq, VlW_eq, StW_eq, VarW_eq, LiveW_eq, RdW_eq, BlW_eq, IntW_eq, PartW_eq, TgW_eq, TgsW_eq, ObW_eq, IxO_eq, PtW_eq, StO_eq, GcW_eq, PtS_eq]
  first | exact w_tNot | (simp only [w_tNot])
theorem w_tAnd1 (t u : Tx) : (tAnd t u g s).Wp Q E = (t g s).Wp (fun b s => if b = true then (u g s).Wp Q E else Q false s) E := by
  simp only [ResWp_eq, FlWp_eq, CRWp_eq, OptW_eq, SlW_eq, VlW_eq, StW_eq, VarW_eq, LiveW_eq, RdW_eq, BlW_eq, IntW_eq, PartW_eq, TgW_eq, TgsW_eq, ObW_eq, IxO_eq, PtW_eq, StO_eq, GcW_eq, PtS_eq]
  first | exact w_tAnd | (simp only [w_tAnd])
theorem w_tOr1 (t u : Tx) : (tOr t u g s).Wp Q E = (t g s).Wp (fun b s => if b = true then Q true s else (u g s).Wp Q E) E := by
  simp only [ResWp_eq, FlWp_eq, CRWp_eq, OptW_eq, SlW_eq, VlW_eq, StW_eq, VarW_eq, LiveW_eq, RdW_eq, BlW_eq, IntW_eq, PartW_eq, TgW_eq, TgsW_eq, ObW_eq, IxO_eq, PtW_eq, StO_eq, GcW_eq, PtS_eq]
  first | exact w_tOr | (simp only [w_tOr])
theorem w_tYes1 : (tYes g s).Wp Q E = Q true s := by
  simp only [ResWp_eq, FlWp_eq, CRWp_eq, OptW_eq, SlW_eq, VlW_eq, StW_eq, VarW_eq, LiveW_eq, RdW_eq, BlW_eq, IntW_eq, PartW_eq, TgW_eq, TgsW_eq, ObW_eq, IxO_eq, PtW_eq, StO_eq, GcW_eq, PtS_eq]
  first | exact w_tYes | (simp only [w_tYes])
end
section
variable {Q : List D → S → Prop}
theorem w_aNil1 : (aNil g s).Wp Q E = Q [] s := by
  simp only [ResWp_eq, FlWp_eq, CRWp_eq, OptW_eq, SlW_eq, VlW_eq, StW_eq, VarW_eq, LiveW_eq, RdW_eq, BlW_eq, IntW_eq, PartW_eq, TgW_eq, TgsW_eq, ObW_eq, IxO_eq, PtW_eq, StO_eq, GcW_eq, PtS_eq]
  first | exact w_aNil | (simp only [w_aNil])
theorem w_aCons1 (e : Ex) (r : Ax) : (aCons e r g s).Wp Q E = (e g s).Wp (fun x s => (r g s).Wp (fun xs s => Q (x :: xs) s) E) E := by
  simp only [ResWp_eq, FlWp_eq, CRWp_eq, OptW_eq, SlW_eq, VlW_eq, StW_eq, VarW_eq, LiveW_eq, RdW_eq, BlW_eq, IntW_eq, PartW_eq, TgW_eq, TgsW_eq, ObW_eq, IxO_eq, PtW_eq, StO_eq, GcW_eq, PtS_eq]
  first | exact w_aCons | (simp only [w_aCons])
theorem w_aStar1 (e : Ex) (r : Ax) : (aStar e r g s).Wp Q E = (e g s).Wp (fun x s => OptW (items? x) fun l => (r g s).Wp (fun xs s => l.length + xs.length ≤ lim ∧ Q (l ++ xs) s) E) E := by
  simp only [ResWp_eq, FlWp_eq, CRWp_eq, OptW_eq, SlW_eq, VlW_eq, StW_eq, VarW_eq, LiveW_eq, RdW_eq, BlW_eq, IntW_eq, PartW_eq, TgW_eq, TgsW_eq, ObW_eq, IxO_eq, PtW_eq, StO_eq, GcW_eq, PtS_eq]
  first | exact w_aStar | (simp only [w_aStar])
theorem w_iVal1 (e : Ex) : (iVal e g s).Wp Q E = (e g s).Wp (fun x s => OptW (walk? x) fun l => Q l s) E := by
  simp only [ResWp_eq, FlWp_eq, CRWp_eq, OptW_eq, SlW_eq, VlW_eq, StW_eq, VarW_eq, LiveW_eq, RdW_eq, BlW_eq, IntW_eq, PartW_eq, TgW_eq, TgsW_eq, ObW_eq, IxO_eq, PtW_eq, StO_eq, GcW_eq, PtS_eq]
  first | exact w_iVal | (simp only [w_iVal])
theorem w_iArgs1 (f : List D → Option (List D)) (a : Ax) : (iArgs f a g s).Wp Q E = (a g s).Wp (fun x s => OptW (f x) fun l => Q l s) E := by
  simp only [ResWp_eq, FlWp_eq, CRWp_eq, OptW_eq, SlW_eq, VlW_eq, StW_eq, VarW_eq, LiveW_eq, RdW_eq, BlW_eq, IntW_eq, PartW_eq, TgW_eq, TgsW_eq, ObW_eq, IxO_eq, PtW_eq, StO_eq, GcW_eq, PtS_eq]
  first | exact w_iArgs | (simp only [w_iArgs])
end
section
variable {P : S → Prop}
theorem tg_name1 (i : Nat) (d : D) : TgW (gName i) d ⟨σ, h⟩ P = StW σ i (.val d) fun σ => P ⟨σ, h⟩ := by
  simp only [ResWp_eq, FlWp_eq, CRWp_eq, OptW_eq, SlW_eq, VlW_eq, StW_eq, VarW_eq, LiveW_eq, RdW_eq, BlW_eq, IntW_eq, PartW_eq, TgW_eq, TgsW_eq, ObW_eq, IxO_eq, PtW_eq, StO_eq, GcW_eq, PtS_eq]
  first | exact tg_name | (simp only [tg_name])
theorem tgs_nil1 : TgsW [] [] s P = P s := by
  simp only [ResWp_eq, FlWp_eq, CRWp_eq, OptW_eq, SlW_eq, VlW_eq, StW_eq, VarW_eq, LiveW_eq, RdW_eq, BlW_eq, IntW_eq, PartW_eq, TgW_eq, TgsW_eq, ObW_eq, IxO_eq, PtW_eq, StO_eq, GcW_eq, PtS_eq]
  first | exact tgs_nil | (simp only [tgs_nil])
theorem tgs_cons1 (t : Tg) (ts : List Tg) (d : D) (ds : List D) : TgsW (t :: ts) (d :: ds) s P = TgW t d s fun s => TgsW ts ds s P := by
  simp only [ResWp_eq, FlWp_eq, CRWp_eq, OptW_eq, SlW_eq, VlW_eq, StW_eq, VarW_eq, LiveW_eq, RdW_eq, BlW_eq, IntW_eq, PartW_eq, TgW_eq, TgsW_eq, ObW_eq, IxO_eq, PtW_eq, StO_eq, GcW_eq, PtS_eq]
  first | exact tgs_cons | (simp only [tgs_cons])
theorem tg_tup1 (ts : List Tg) (l : List D) : TgW (gTup ts) (.tup l) s P = TgsW ts l s P := by
  simp only [ResWp_eq, FlWp_eq, CRWp_eq, OptW_eq, SlW_eq, VlW_eq, StW_eq, VarW_eq, LiveW_eq, RdW_eq, BlW_eq, IntW_eq, PartW_eq, TgW_eq, TgsW_eq, ObW_eq, IxO_eq, PtW_eq, StO_eq, GcW_eq, PtS_eq]
  first | exact tg_tup | (simp only [tg_tup])
theorem tg_lst1 (ts : List Tg) (l : List D) : TgW (gTup ts) (.lst l) s P = TgsW ts l s P := by
  simp only [ResWp_eq, FlWp_eq, CRWp_eq, OptW_eq, SlW_eq, VlW_eq, StW_eq, VarW_eq, LiveW_eq, RdW_eq, BlW_eq, IntW_eq, PartW_eq, TgW_eq, TgsW_eq, ObW_eq, IxO_eq, PtW_eq, StO_eq, GcW_eq, PtS_eq]
  first | exact tg_lst | (simp only [tg_lst])
end
theorem w_pass1 : (pass g s).Wp K = K.nx s := by
  simp only [ResWp_eq, FlWp_eq, CRWp_eq, OptW_eq, SlW_eq, VlW_eq, StW_eq, VarW_eq, LiveW_eq, RdW_eq, BlW_eq, IntW_eq, PartW_eq, TgW_eq, TgsW_eq, ObW_eq, IxO_eq, PtW_eq, StO_eq, GcW_eq, PtS_eq]
  first | exact w_pass | (simp only [w_pass])
theorem w_brk1 : (brk g s).Wp K = K.bk s := by
  simp only [ResWp_eq, FlWp_eq, CRWp_eq, OptW_eq, SlW_eq, VlW_eq, StW_eq, VarW_eq, LiveW_eq, RdW_eq, BlW_eq, IntW_eq, PartW_eq, TgW_eq, TgsW_eq, ObW_eq, IxO_eq, PtW_eq, StO_eq, GcW_eq, PtS_eq]
  first | exact w_brk | (simp only [w_brk])
theorem w_cont1 : (cont g s).Wp K = K.ct s := by
  simp only [ResWp_eq, FlWp_eq, CRWp_eq, OptW_eq, SlW_eq, VlW_eq, StW_eq, VarW_eq, LiveW_eq, RdW_eq, BlW_eq, IntW_eq, PartW_eq, TgW_eq, TgsW_eq, ObW_eq, IxO_eq, PtW_eq, StO_eq, GcW_eq, PtS_eq]
  first | exact w_cont | (simp only [w_cont])
theorem w_seq1 (a b : Bl) : (seq a b g s).Wp K = (a g s).Wp ⟨fun s => (b g s).Wp K, K.rt, K.bk, K.ct, K.ex⟩ := by
  simp only [ResWp_eq, FlWp_eq, CRWp_eq, OptW_eq, SlW_eq, VlW_eq, StW_eq, VarW_eq, LiveW_eq, RdW_eq, BlW_eq, IntW_eq, PartW_eq, TgW_eq, TgsW_eq, ObW_eq, IxO_eq, PtW_eq, StO_eq, GcW_eq, PtS_eq]
  first | exact w_seq | (simp only [w_seq])
theorem w_ret1 (e : Ex) : (ret e g s).Wp K = (e g s).Wp (fun d s => K.rt d s.h) K.ex := by
  simp only [ResWp_eq, FlWp_eq, CRWp_eq, OptW_eq, SlW_eq, VlW_eq, StW_eq, VarW_eq, LiveW_eq, RdW_eq, BlW_eq, IntW_eq, PartW_eq, TgW_eq, TgsW_eq, ObW_eq, IxO_eq, PtW_eq, StO_eq, GcW_eq, PtS_eq]
  first | exact w_ret | (simp only [w_ret])
theorem w_asg1 (tg : Tg) (e : Ex) : (asg tg e g s).Wp K = (e g s).Wp (fun d s => TgW tg d s K.nx) K.ex := by
  simp only [ResWp_eq, FlWp_eq, CRWp_eq, OptW_eq, SlW_eq, VlW_eq, StW_eq, VarW_eq, LiveW_eq, RdW_eq, BlW_eq, IntW_eq, PartW_eq, TgW_eq, TgsW_eq, ObW_eq, IxO_eq, PtW_eq, StO_eq, GcW_eq, PtS_eq]
  first | exact w_asg | (simp only [w_asg])
theorem w_take1 (i : Nat) (e : Ex) : (take i e g s).Wp K = (e g s).Wp (fun d s => StW s.sg i (if ownable d = true then .own d else .val d) fun σ => K.nx ⟨σ, s.h⟩) K.ex := by
  simp only [ResWp_eq, FlWp_eq, CRWp_eq, OptW_eq, SlW_eq, VlW_eq, StW_eq, VarW_eq, LiveW_eq, RdW_eq, BlW_eq, IntW_eq, PartW_eq, TgW_eq, TgsW_eq, ObW_eq, IxO_eq, PtW_eq, StO_eq, GcW_eq, PtS_eq]
  first | exact w_take | (simp only [w_take])
theorem w_parS1 (is : List Nat) (es : List (Bool × Ex)) : (parS is es g s).Wp K = (rowS es g s).Wp (fun l s => OptW (putAll is l s.sg) fun σ => K.nx ⟨σ, s.h⟩) K.ex := by
  simp only [ResWp_eq, FlWp_eq, CRWp_eq, OptW_eq, SlW_eq, VlW_eq, StW_eq, VarW_eq, LiveW_eq, RdW_eq, BlW_eq, IntW_eq, PartW_eq, TgW_eq, TgsW_eq, ObW_eq, IxO_eq, PtW_eq, StO_eq, GcW_eq, PtS_eq]
  first | exact w_parS | (simp only [w_parS])
theorem w_rowS_nil1 {Q : List Sl → S → Prop} : (rowS [] g s).Wp Q E = Q [] s := by
  simp only [ResWp_eq, FlWp_eq, CRWp_eq, OptW_eq, SlW_eq, VlW_eq, StW_eq, VarW_eq, LiveW_eq, RdW_eq, BlW_eq, IntW_eq, PartW_eq, TgW_eq, TgsW_eq, ObW_eq, IxO_eq, PtW_eq, StO_eq, GcW_eq, PtS_eq]
  first | exact w_rowS_nil | (simp only [w_rowS_nil])
theorem w_rowS_cons1 {Q : List Sl → S → Prop} (b : Bool) (e : Ex) (r : List (Bool × Ex)) : (rowS ((b, e) :: r) g s).Wp Q E = (e g s).Wp (fun d s => (rowS r g s).Wp (fun l s => Q ((if b = true then .own d else .val d) :: l) s) E) E := by
  simp only [ResWp_eq, FlWp_eq, CRWp_eq, OptW_eq, SlW_eq, VlW_eq, StW_eq, VarW_eq, LiveW_eq, RdW_eq, BlW_eq, IntW_eq, PartW_eq, TgW_eq, TgsW_eq, ObW_eq, IxO_eq, PtW_eq, StO_eq, GcW_eq, PtS_eq]
  first | exact w_rowS_cons | (simp only [w_rowS_cons])
theorem ptAll_nil1 (σ : List Sl) (P : List Sl → Prop) : OptW (putAll [] [] σ) P = P σ := by
  simp only [ResWp_eq, FlWp_eq, CRWp_eq, OptW_eq, SlW_eq, VlW_eq, StW_eq, VarW_eq, LiveW_eq, RdW_eq, BlW_eq, IntW_eq, PartW_eq, TgW_eq, TgsW_eq, ObW_eq, IxO_eq, PtW_eq, StO_eq, GcW_eq, PtS_eq]
  first | exact ptAll_nil | (simp only [ptAll_nil])
theorem ptAll_cons1 (i : Nat) (is : List Nat) (x : Sl) (xs : List Sl) (σ : List Sl) (P : List Sl → Prop) : OptW (putAll (i :: is) (x :: xs) σ) P = StW σ i x fun σ => OptW (putAll is xs σ) P := by
  simp only [ResWp_eq, FlWp_eq, CRWp_eq, OptW_eq, SlW_eq, VlW_eq, StW_eq, VarW_eq, LiveW_eq, RdW_eq, BlW_eq, IntW_eq, PartW_eq, TgW_eq, TgsW_eq, ObW_eq, IxO_eq, PtW_eq, StO_eq, GcW_eq, PtS_eq]
  first | exact ptAll_cons | (simp only [ptAll_cons])
theorem w_expr1 (e : Ex) : (exprS e g s).Wp K = (e g s).Wp (fun _ s => K.nx s) K.ex := by
  simp only [ResWp_eq, FlWp_eq, CRWp_eq, OptW_eq, SlW_eq, VlW_eq, StW_eq, VarW_eq, LiveW_eq, RdW_eq, BlW_eq, IntW_eq, PartW_eq, TgW_eq, TgsW_eq, ObW_eq, IxO_eq, PtW_eq, StO_eq, GcW_eq, PtS_eq]
  first | exact w_expr | (simp only [w_expr])
theorem w_if1 (t : Tx) (a b : Bl) : (ifS t a b g s).Wp K = (t g s).Wp (fun c s => if c = true then (a g s).Wp K else (b g s).Wp K) K.ex := by
  simp only [ResWp_eq, FlWp_eq, CRWp_eq, OptW_eq, SlW_eq, VlW_eq, StW_eq, VarW_eq, LiveW_eq, RdW_eq, BlW_eq, IntW_eq, PartW_eq, TgW_eq, TgsW_eq, ObW_eq, IxO_eq, PtW_eq, StO_eq, GcW_eq, PtS_eq]
  first | exact w_if | (simp only [w_if])
theorem w_forL_nil1 (tg : Tg) (b : Bl) : (forL tg b g [] s).Wp K = K.nx s := by
  simp only [ResWp_eq, FlWp_eq, CRWp_eq, OptW_eq, SlW_eq, VlW_eq, StW_eq, VarW_eq, LiveW_eq, RdW_eq, BlW_eq, IntW_eq, PartW_eq, TgW_eq, TgsW_eq, ObW_eq, IxO_eq, PtW_eq, StO_eq, GcW_eq, PtS_eq]
  first | exact w_forL_nil | (simp only [w_forL_nil])
theorem w_forL_cons1 (tg : Tg) (b : Bl) (d : D) (ds : List D) : (forL tg b g (d :: ds) s).Wp K = TgW tg d s fun s => (b g s).Wp ⟨fun s => (forL tg b g ds s).Wp K, K.rt, K.nx, fun s => (forL tg b g ds s).Wp K, K.ex⟩ := by
  simp only [ResWp_eq, FlWp_eq, CRWp_eq, OptW_eq, SlW_eq, VlW_eq, StW_eq, VarW_eq, LiveW_eq, RdW_eq, BlW_eq, IntW_eq, PartW_eq, TgW_eq, TgsW_eq, ObW_eq, IxO_eq, PtW_eq, StO_eq, GcW_eq, PtS_eq]
  first | exact w_forL_cons | (simp only [w_forL_cons])
theorem w_for1 (it : Ix) (tg : Tg) (b : Bl) : (forS it tg b g s).Wp K = (it g s).Wp (fun l s => (forL tg b g l s).Wp K) K.ex := by
  simp only [ResWp_eq, FlWp_eq, CRWp_eq, OptW_eq, SlW_eq, VlW_eq, StW_eq, VarW_eq, LiveW_eq, RdW_eq, BlW_eq, IntW_eq, PartW_eq, TgW_eq, TgsW_eq, ObW_eq, IxO_eq, PtW_eq, StO_eq, GcW_eq, PtS_eq]
  first | exact w_for | (simp only [w_for])
theorem w_augI1 (f : Int → Int → Int) (i : Nat) (e : Ex) : (augI f i e g ⟨σ, h⟩).Wp K = SlW σ i fun x => VlW x fun d => IntW d fun a => (e g ⟨σ, h⟩).Wp (fun d s => IntW d fun b => StW s.sg i (.val (.int (f a b))) fun σ => K.nx ⟨σ, s.h⟩) K.ex := by
  simp only [ResWp_eq, FlWp_eq, CRWp_eq, OptW_eq, SlW_eq, VlW_eq, StW_eq, VarW_eq, LiveW_eq, RdW_eq, BlW_eq, IntW_eq, PartW_eq, TgW_eq, TgsW_eq, ObW_eq, IxO_eq, PtW_eq, StO_eq, GcW_eq, PtS_eq]
  first | exact w_augI | (simp only [w_augI])
theorem w_call1 {Q : D → S → Prop} (f : Nm) (n : Nat) (a k : Ax) (p : List (Sum Nat D)) : (callK f n a k p g s).Wp Q E = (a g s).Wp (fun xs s => (k g s).Wp (fun ys s => xs.length = n ∧ OptW (arrange p (xs ++ ys)) fun es => (g f es s.h).Wp (fun d h => Q d ⟨s.sg, h⟩) fun x h => E x ⟨s.sg, h⟩) E) E := by
  simp only [ResWp_eq, FlWp_eq, CRWp_eq, OptW_eq, SlW_eq, VlW_eq, StW_eq, VarW_eq, LiveW_eq, RdW_eq, BlW_eq, IntW_eq, PartW_eq, TgW_eq, TgsW_eq, ObW_eq, IxO_eq, PtW_eq, StO_eq, GcW_eq, PtS_eq]
  first | exact w_call | (simp only [w_call])
theorem w_run1 (F : Fn) (ds : List D) (Q : D → List Ob → Prop) (X : Exc → List Ob → Prop) : (runF F g ds h).Wp Q X = (ds.length = F.np ∧ (F.body g ⟨start F ds, h⟩).Wp ⟨fun s => GcW h.length .non s.h Q, fun d h' => GcW h.length d h' Q, fun _ => False, fun _ => False, fun x s => X x s.h⟩) := by
  simp only [ResWp_eq, FlWp_eq, CRWp_eq, OptW_eq, SlW_eq, VlW_eq, StW_eq, VarW_eq, LiveW_eq, RdW_eq, BlW_eq, IntW_eq, PartW_eq, TgW_eq, TgsW_eq, ObW_eq, IxO_eq, PtW_eq, StO_eq, GcW_eq, PtS_eq]
  first | exact w_run | (simp only [w_run])
end
section
variable {P : D → Prop} {h : List Ob} {i j : Int} {x y d : D} {l m : List D} {a b : Nm}
theorem p_add1 : OptW (dAdd (.int i) (.int j)) P = P (.int (i + j)) := by
  simp only [ResWp_eq, FlWp_eq, CRWp_eq, OptW_eq, SlW_eq, VlW_eq, StW_eq, VarW_eq, LiveW_eq, RdW_eq, BlW_eq, IntW_eq, PartW_eq, TgW_eq, TgsW_eq, ObW_eq, IxO_eq, PtW_eq, StO_eq, GcW_eq, PtS_eq]
  first | exact p_add | (simp only [p_add])
theorem p_sub1 : OptW (dSub (.int i) (.int j)) P = P (.int (i - j)) := by
  simp only [ResWp_eq, FlWp_eq, CRWp_eq, OptW_eq, SlW_eq, VlW_eq, StW_eq, VarW_eq, LiveW_eq, RdW_eq, BlW_eq, IntW_eq, PartW_eq, TgW_eq, TgsW_eq, ObW_eq, IxO_eq, PtW_eq, StO_eq, GcW_eq, PtS_eq]
  first | exact p_sub | (simp only [p_sub])
theorem p_mul1 : OptW (dMul (.int i) (.int j)) P = (fitI 400000 i = true ∧ fitI 400000 j = true ∧ P (.int (i * j))) := by
  simp only [ResWp_eq, FlWp_eq, CRWp_eq, OptW_eq, SlW_eq, VlW_eq, StW_eq, VarW_eq, LiveW_eq, RdW_eq, BlW_eq, IntW_eq, PartW_eq, TgW_eq, TgsW_eq, ObW_eq, IxO_eq, PtW_eq, StO_eq, GcW_eq, PtS_eq]
  first | exact p_mul | (simp only [p_mul])
theorem p_fdiv1 : OptW (dFdiv (.int i) (.int j)) P = (0 < j ∧ fitI 9000 j = true ∧ P (.int (i / j))) := by
  simp only [ResWp_eq, FlWp_eq, CRWp_eq, OptW_eq, SlW_eq, VlW_eq, StW_eq, VarW_eq, LiveW_eq, RdW_eq, BlW_eq, IntW_eq, PartW_eq, TgW_eq, TgsW_eq, ObW_eq, IxO_eq, PtW_eq, StO_eq, GcW_eq, PtS_eq]
  first | exact p_fdiv | (simp only [p_fdiv])
theorem p_mod1 : OptW (dMod (.int i) (.int j)) P = (0 < j ∧ P (.int (i % j))) := by
  simp only [ResWp_eq, FlWp_eq, CRWp_eq, OptW_eq, SlW_eq, VlW_eq, StW_eq, VarW_eq, LiveW_eq, RdW_eq, BlW_eq, IntW_eq, PartW_eq, TgW_eq, TgsW_eq, ObW_eq, IxO_eq, PtW_eq, StO_eq, GcW_eq, PtS_eq]
  first | exact p_mod | (simp only [p_mod])
theorem p_pow1 : OptW (dPow (.int i) (.int j)) P = (0 ≤ j ∧ j ≤ 1000000 ∧ i.natAbs < 2 ^ 64 ∧ P (.int (i ^ j.toNat))) := by
  simp only [ResWp_eq, FlWp_eq, CRWp_eq, OptW_eq, SlW_eq, VlW_eq, StW_eq, VarW_eq, LiveW_eq, RdW_eq, BlW_eq, IntW_eq, PartW_eq, TgW_eq, TgsW_eq, ObW_eq, IxO_eq, PtW_eq, StO_eq, GcW_eq, PtS_eq]
  first | exact p_pow | (simp only [p_pow])
theorem p_neg1 : OptW (dNeg (.int i)) P = P (.int (-i)) := by
  simp only [ResWp_eq, FlWp_eq, CRWp_eq, OptW_eq, SlW_eq, VlW_eq, StW_eq, VarW_eq, LiveW_eq, RdW_eq, BlW_eq, IntW_eq, PartW_eq, TgW_eq, TgsW_eq, ObW_eq, IxO_eq, PtW_eq, StO_eq, GcW_eq, PtS_eq]
  first | exact p_neg | (simp only [p_neg])
theorem p_lt1 : OptW (dLt (.int i) (.int j)) P = P (.bl (decide (i < j))) := by
  simp only [ResWp_eq, FlWp_eq, CRWp_eq, OptW_eq, SlW_eq, VlW_eq, StW_eq, VarW_eq, LiveW_eq, RdW_eq, BlW_eq, IntW_eq, PartW_eq, TgW_eq, TgsW_eq, ObW_eq, IxO_eq, PtW_eq, StO_eq, GcW_eq, PtS_eq]
  first | exact p_lt | (simp only [p_lt])
theorem p_le1 : OptW (dLe (.int i) (.int j)) P = P (.bl (decide (i ≤ j))) := by
  simp only [ResWp_eq, FlWp_eq, CRWp_eq, OptW_eq, SlW_eq, VlW_eq, StW_eq, VarW_eq, LiveW_eq, RdW_eq, BlW_eq, IntW_eq, PartW_eq, TgW_eq, TgsW_eq, ObW_eq, IxO_eq, PtW_eq, StO_eq, GcW_eq, PtS_eq]
  first | exact p_le | (simp only [p_le])
theorem p_gt1 : OptW (dGt (.int i) (.int j)) P = P (.bl (decide (j < i))) := by
  simp only [ResWp_eq, FlWp_eq, CRWp_eq, OptW_eq, SlW_eq, VlW_eq, StW_eq, VarW_eq, LiveW_eq, RdW_eq, BlW_eq, IntW_eq, PartW_eq, TgW_eq, TgsW_eq, ObW_eq, IxO_eq, PtW_eq, StO_eq, GcW_eq, PtS_eq]
  first | exact p_gt | (simp only [p_gt])
theorem p_ge1 : OptW (dGe (.int i) (.int j)) P = P (.bl (decide (j ≤ i))) := by
  simp only [ResWp_eq, FlWp_eq, CRWp_eq, OptW_eq, SlW_eq, VlW_eq, StW_eq, VarW_eq, LiveW_eq, RdW_eq, BlW_eq, IntW_eq, PartW_eq, TgW_eq, TgsW_eq, ObW_eq, IxO_eq, PtW_eq, StO_eq, GcW_eq, PtS_eq]
  first | exact p_ge | (simp only [p_ge])
theorem p_int1 : OptW (dInt (.int i)) P = P (.int i) := by
  simp only [ResWp_eq, FlWp_eq, CRWp_eq, OptW_eq, SlW_eq, VlW_eq, StW_eq, VarW_eq, LiveW_eq, RdW_eq, BlW_eq, IntW_eq, PartW_eq, TgW_eq, TgsW_eq, ObW_eq, IxO_eq, PtW_eq, StO_eq, GcW_eq, PtS_eq]
  first | exact p_int | (simp only [p_int])
theorem p_intb1 {k : Bool} : OptW (dInt (.bl k)) P = P (.int (if k = true then 1 else 0)) := by
  simp only [ResWp_eq, FlWp_eq, CRWp_eq, OptW_eq, SlW_eq, VlW_eq, StW_eq, VarW_eq, LiveW_eq, RdW_eq, BlW_eq, IntW_eq, PartW_eq, TgW_eq, TgsW_eq, ObW_eq, IxO_eq, PtW_eq, StO_eq, GcW_eq, PtS_eq]
  first | exact p_intb | (simp only [p_intb])
theorem p_isN1 : OptW (dIsN .non) P = P (.bl true) := by
  simp only [ResWp_eq, FlWp_eq, CRWp_eq, OptW_eq, SlW_eq, VlW_eq, StW_eq, VarW_eq, LiveW_eq, RdW_eq, BlW_eq, IntW_eq, PartW_eq, TgW_eq, TgsW_eq, ObW_eq, IxO_eq, PtW_eq, StO_eq, GcW_eq, PtS_eq]
  first | exact p_isN | (simp only [p_isN])
theorem p_isN_int1 : OptW (dIsN (.int i)) P = P (.bl false) := by
  simp only [ResWp_eq, FlWp_eq, CRWp_eq, OptW_eq, SlW_eq, VlW_eq, StW_eq, VarW_eq, LiveW_eq, RdW_eq, BlW_eq, IntW_eq, PartW_eq, TgW_eq, TgsW_eq, ObW_eq, IxO_eq, PtW_eq, StO_eq, GcW_eq, PtS_eq]
  first | exact p_isN_int | (simp only [p_isN_int])
theorem p_isN_tup1 : OptW (dIsN (.tup l)) P = P (.bl false) := by
  simp only [ResWp_eq, FlWp_eq, CRWp_eq, OptW_eq, SlW_eq, VlW_eq, StW_eq, VarW_eq, LiveW_eq, RdW_eq, BlW_eq, IntW_eq, PartW_eq, TgW_eq, TgsW_eq, ObW_eq, IxO_eq, PtW_eq, StO_eq, GcW_eq, PtS_eq]
  first | exact p_isN_tup | (simp only [p_isN_tup])
theorem p_isN_str1 : OptW (dIsN (.str a)) P = P (.bl false) := by
  simp only [ResWp_eq, FlWp_eq, CRWp_eq, OptW_eq, SlW_eq, VlW_eq, StW_eq, VarW_eq, LiveW_eq, RdW_eq, BlW_eq, IntW_eq, PartW_eq, TgW_eq, TgsW_eq, ObW_eq, IxO_eq, PtW_eq, StO_eq, GcW_eq, PtS_eq]
  first | exact p_isN_str | (simp only [p_isN_str])
theorem p_isN_lst1 : OptW (dIsN (.lst l)) P = P (.bl false) := by
  simp only [ResWp_eq, FlWp_eq, CRWp_eq, OptW_eq, SlW_eq, VlW_eq, StW_eq, VarW_eq, LiveW_eq, RdW_eq, BlW_eq, IntW_eq, PartW_eq, TgW_eq, TgsW_eq, ObW_eq, IxO_eq, PtW_eq, StO_eq, GcW_eq, PtS_eq]
  first | exact p_isN_lst | (simp only [p_isN_lst])
theorem p_notN1 : OptW (dNotN .non) P = P (.bl false) := by
  simp only [ResWp_eq, FlWp_eq, CRWp_eq, OptW_eq, SlW_eq, VlW_eq, StW_eq, VarW_eq, LiveW_eq, RdW_eq, BlW_eq, IntW_eq, PartW_eq, TgW_eq, TgsW_eq, ObW_eq, IxO_eq, PtW_eq, StO_eq, GcW_eq, PtS_eq]
  first | exact p_notN | (simp only [p_notN])
theorem p_notN_int1 : OptW (dNotN (.int i)) P = P (.bl true) := by
  simp only [ResWp_eq, FlWp_eq, CRWp_eq, OptW_eq, SlW_eq, VlW_eq, StW_eq, VarW_eq, LiveW_eq, RdW_eq, BlW_eq, IntW_eq, PartW_eq, TgW_eq, TgsW_eq, ObW_eq, IxO_eq, PtW_eq, StO_eq, GcW_eq, PtS_eq]
  first | exact p_notN_int | (simp only [p_notN_int])
theorem p_notN_tup1 : OptW (dNotN (.tup l)) P = P (.bl true) := by
  simp only [ResWp_eq, FlWp_eq, CRWp_eq, OptW_eq, SlW_eq, VlW_eq, StW_eq, VarW_eq, LiveW_eq, RdW_eq, BlW_eq, IntW_eq, PartW_eq, TgW_eq, TgsW_eq, ObW_eq, IxO_eq, PtW_eq, StO_eq, GcW_eq, PtS_eq]
  first | exact p_notN_tup | (simp only [p_notN_tup])
theorem p_notN_str1 : OptW (dNotN (.str a)) P = P (.bl true) := by
  simp only [ResWp_eq, FlWp_eq, CRWp_eq, OptW_eq, SlW_eq, VlW_eq, StW_eq, VarW_eq, LiveW_eq, RdW_eq, BlW_eq, IntW_eq, PartW_eq, TgW_eq, TgsW_eq, ObW_eq, IxO_eq, PtW_eq, StO_eq, GcW_eq, PtS_eq]
  first | exact p_notN_str | (simp only [p_notN_str])
theorem p_notN_lst1 : OptW (dNotN (.lst l)) P = P (.bl true) := by
  simp only [ResWp_eq, FlWp_eq, CRWp_eq, OptW_eq, SlW_eq, VlW_eq, StW_eq, VarW_eq, LiveW_eq, RdW_eq, BlW_eq, IntW_eq, PartW_eq, TgW_eq, TgsW_eq, ObW_eq, IxO_eq, PtW_eq, StO_eq, GcW_eq, PtS_eq]
  first | exact p_notN_lst | (simp only [p_notN_lst])
theorem p_len_lst1 : OptW (dLen h (.lst l)) P = P (.int l.length) := by
  simp only [ResWp_eq, FlWp_eq, CRWp_eq, OptW_eq, SlW_eq, VlW_eq, StW_eq, VarW_eq, LiveW_eq, RdW_eq, BlW_eq, IntW_eq, PartW_eq, TgW_eq, TgsW_eq, ObW_eq, IxO_eq, PtW_eq, StO_eq, GcW_eq, PtS_eq]
  first | exact p_len_lst | (simp only [p_len_lst])
theorem p_len_tup1 : OptW (dLen h (.tup l)) P = P (.int l.length) := by
  simp only [ResWp_eq, FlWp_eq, CRWp_eq, OptW_eq, SlW_eq, VlW_eq, StW_eq, VarW_eq, LiveW_eq, RdW_eq, BlW_eq, IntW_eq, PartW_eq, TgW_eq, TgsW_eq, ObW_eq, IxO_eq, PtW_eq, StO_eq, GcW_eq, PtS_eq]
  first | exact p_len_tup | (simp only [p_len_tup])
theorem p_len_fro1 : OptW (dLen h (.fro l)) P = P (.int l.length) := by
  simp only [ResWp_eq, FlWp_eq, CRWp_eq, OptW_eq, SlW_eq, VlW_eq, StW_eq, VarW_eq, LiveW_eq, RdW_eq, BlW_eq, IntW_eq, PartW_eq, TgW_eq, TgsW_eq, ObW_eq, IxO_eq, PtW_eq, StO_eq, GcW_eq, PtS_eq]
  first | exact p_len_fro | (simp only [p_len_fro])
theorem p_ix_lst1 : OptW (dIx h (.lst l) (.int i)) P = OptW (atI l i) P := by
  simp only [ResWp_eq, FlWp_eq, CRWp_eq, OptW_eq, SlW_eq, VlW_eq, StW_eq, VarW_eq, LiveW_eq, RdW_eq, BlW_eq, IntW_eq, PartW_eq, TgW_eq, TgsW_eq, ObW_eq, IxO_eq, PtW_eq, StO_eq, GcW_eq, PtS_eq]
  first | exact p_ix_lst | (simp only [p_ix_lst])
theorem p_ix_tup1 : OptW (dIx h (.tup l) (.int i)) P = OptW (atI l i) P := by
  simp only [ResWp_eq, FlWp_eq, CRWp_eq, OptW_eq, SlW_eq, VlW_eq, StW_eq, VarW_eq, LiveW_eq, RdW_eq, BlW_eq, IntW_eq, PartW_eq, TgW_eq, TgsW_eq, ObW_eq, IxO_eq, PtW_eq, StO_eq, GcW_eq, PtS_eq]
  first | exact p_ix_tup | (simp only [p_ix_tup])
theorem p_ix_dics1 {l : List (K × D)} : OptW (dIx h (.dic l) (.str a)) P = OptW (dget l (.s a)) P := by
  simp only [ResWp_eq, FlWp_eq, CRWp_eq, OptW_eq, SlW_eq, VlW_eq, StW_eq, VarW_eq, LiveW_eq, RdW_eq, BlW_eq, IntW_eq, PartW_eq, TgW_eq, TgsW_eq, ObW_eq, IxO_eq, PtW_eq, StO_eq, GcW_eq, PtS_eq]
  first | exact p_ix_dics | (simp only [p_ix_dics])
theorem p_ix_dici1 {l : List (K × D)} : OptW (dIx h (.dic l) (.int i)) P = OptW (dget l (.i i)) P := by
  simp only [ResWp_eq, FlWp_eq, CRWp_eq, OptW_eq, SlW_eq, VlW_eq, StW_eq, VarW_eq, LiveW_eq, RdW_eq, BlW_eq, IntW_eq, PartW_eq, TgW_eq, TgsW_eq, ObW_eq, IxO_eq, PtW_eq, StO_eq, GcW_eq, PtS_eq]
  first | exact p_ix_dici | (simp only [p_ix_dici])
theorem obW_zero1 (a : Ob) (l : List Ob) (P : Ob → Prop) : ObW (a :: l) 0 P = P a := by
  simp only [ResWp_eq, FlWp_eq, CRWp_eq, OptW_eq, SlW_eq, VlW_eq, StW_eq, VarW_eq, LiveW_eq, RdW_eq, BlW_eq, IntW_eq, PartW_eq, TgW_eq, TgsW_eq, ObW_eq, IxO_eq, PtW_eq, StO_eq, GcW_eq, PtS_eq]
  first | exact obW_zero | (simp only [obW_zero])
theorem obW_succ1 (a : Ob) (l : List Ob) (n : Nat) (P : Ob → Prop) : ObW (a :: l) (n + 1) P = ObW l n P := by
  simp only [ResWp_eq, FlWp_eq, CRWp_eq, OptW_eq, SlW_eq, VlW_eq, StW_eq, VarW_eq, LiveW_eq, RdW_eq, BlW_eq, IntW_eq, PartW_eq, TgW_eq, TgsW_eq, ObW_eq, IxO_eq, PtW_eq, StO_eq, GcW_eq, PtS_eq]
  first | exact obW_succ | (simp only [obW_succ])
theorem ixO_dics1 {l : List (K × D)} : IxO (.dic l) (.str a) P = OptW (dget l (.s a)) P := by
  simp only [ResWp_eq, FlWp_eq, CRWp_eq, OptW_eq, SlW_eq, VlW_eq, StW_eq, VarW_eq, LiveW_eq, RdW_eq, BlW_eq, IntW_eq, PartW_eq, TgW_eq, TgsW_eq, ObW_eq, IxO_eq, PtW_eq, StO_eq, GcW_eq, PtS_eq]
  first | exact ixO_dics | (simp only [ixO_dics])
theorem ixO_dici1 {l : List (K × D)} : IxO (.dic l) (.int i) P = OptW (dget l (.i i)) P := by
  simp only [ResWp_eq, FlWp_eq, CRWp_eq, OptW_eq, SlW_eq, VlW_eq, StW_eq, VarW_eq, LiveW_eq, RdW_eq, BlW_eq, IntW_eq, PartW_eq, TgW_eq, TgsW_eq, ObW_eq, IxO_eq, PtW_eq, StO_eq, GcW_eq, PtS_eq]
  first | exact ixO_dici | (simp only [ixO_dici])
theorem ixO_lst1 : IxO (.lst l) (.int i) P = OptW (atI l i) P := by
  simp only [ResWp_eq, FlWp_eq, CRWp_eq, OptW_eq, SlW_eq, VlW_eq, StW_eq, VarW_eq, LiveW_eq, RdW_eq, BlW_eq, IntW_eq, PartW_eq, TgW_eq, TgsW_eq, ObW_eq, IxO_eq, PtW_eq, StO_eq, GcW_eq, PtS_eq]
  first | exact ixO_lst | (simp only [ixO_lst])
theorem p_ix_ref1 {n : Nat} : OptW (dIx h (.ref n) y) P = ObW h n fun o => IxO o y P := by
  simp only [ResWp_eq, FlWp_eq, CRWp_eq, OptW_eq, SlW_eq, VlW_eq, StW_eq, VarW_eq, LiveW_eq, RdW_eq, BlW_eq, IntW_eq, PartW_eq, TgW_eq, TgsW_eq, ObW_eq, IxO_eq, PtW_eq, StO_eq, GcW_eq, PtS_eq]
  first | exact p_ix_ref | (simp only [p_ix_ref])
theorem dg_cons1 {κ : Type} [DecidableEq κ] {k k' : κ} {r : List (κ × D)} : OptW (dget ((k', d) :: r) k) P = (if k' = k then P d else OptW (dget r k) P) := by
  simp only [ResWp_eq, FlWp_eq, CRWp_eq, OptW_eq, SlW_eq, VlW_eq, StW_eq, VarW_eq, LiveW_eq, RdW_eq, BlW_eq, IntW_eq, PartW_eq, TgW_eq, TgsW_eq, ObW_eq, IxO_eq, PtW_eq, StO_eq, GcW_eq, PtS_eq]
  first | exact dg_cons | (simp only [dg_cons])
theorem dg_dput1 {κ : Type} [DecidableEq κ] {l : List (κ × D)} {j k : κ} {v : D} : OptW (dget (dput l j v) k) P = (if j = k then P v else OptW (dget l k) P) := by
  simp only [ResWp_eq, FlWp_eq, CRWp_eq, OptW_eq, SlW_eq, VlW_eq, StW_eq, VarW_eq, LiveW_eq, RdW_eq, BlW_eq, IntW_eq, PartW_eq, TgW_eq, TgsW_eq, ObW_eq, IxO_eq, PtW_eq, StO_eq, GcW_eq, PtS_eq]
  first | exact dg_dput | (simp only [dg_dput])
end
section
variable {g : G} {σ : List Sl} {h : List Ob} {s : S} {K : En} {P : S → Prop} {a : Nm}
theorem stO_zero1 (a : Ob) (l : List Ob) (v : Ob) (P : List Ob → Prop) : StO (a :: l) 0 v P = P (v :: l) := by
  simp only [ResWp_eq, FlWp_eq, CRWp_eq, OptW_eq, SlW_eq, VlW_eq, StW_eq, VarW_eq, LiveW_eq, RdW_eq, BlW_eq, IntW_eq, PartW_eq, TgW_eq, TgsW_eq, ObW_eq, IxO_eq, PtW_eq, StO_eq, GcW_eq, PtS_eq]
  first | exact stO_zero | (simp only [stO_zero])
theorem stO_succ1 (a : Ob) (l : List Ob) (n : Nat) (v : Ob) (P : List Ob → Prop) : StO (a :: l) (n + 1) v P = StO l n v fun l => P (a :: l) := by
  simp only [ResWp_eq, FlWp_eq, CRWp_eq, OptW_eq, SlW_eq, VlW_eq, StW_eq, VarW_eq, LiveW_eq, RdW_eq, BlW_eq, IntW_eq, PartW_eq, TgW_eq, TgsW_eq, ObW_eq, IxO_eq, PtW_eq, StO_eq, GcW_eq, PtS_eq]
  first | exact stO_succ | (simp only [stO_succ])
theorem ptS_own1 (d : D) (i : Nat) (k v : D) : PtS (.own d) σ i h k v P = OptW (putD d k v) fun d => StW σ i (.own d) fun σ => P ⟨σ, h⟩ := by
  simp only [ResWp_eq, FlWp_eq, CRWp_eq, OptW_eq, SlW_eq, VlW_eq, StW_eq, VarW_eq, LiveW_eq, RdW_eq, BlW_eq, IntW_eq, PartW_eq, TgW_eq, TgsW_eq, ObW_eq, IxO_eq, PtW_eq, StO_eq, GcW_eq, PtS_eq]
  first | exact ptS_own | (simp only [ptS_own])
theorem ptS_ref1 (n i : Nat) (k v : D) : PtS (.val (.ref n)) σ i h k v P = ObW h n fun o => noR 0 v = true ∧ OptW (putO o k v) fun o => StO h n o fun h => P ⟨σ, h⟩ := by
  simp only [ResWp_eq, FlWp_eq, CRWp_eq, OptW_eq, SlW_eq, VlW_eq, StW_eq, VarW_eq, LiveW_eq, RdW_eq, BlW_eq, IntW_eq, PartW_eq, TgW_eq, TgsW_eq, ObW_eq, IxO_eq, PtW_eq, StO_eq, GcW_eq, PtS_eq]
  first | exact ptS_ref | (simp only [ptS_ref])
theorem ptW_eq1 (i : Nat) (k v : D) : PtW ⟨σ, h⟩ i k v P = SlW σ i fun x => PtS x σ i h k v P := by
  simp only [ResWp_eq, FlWp_eq, CRWp_eq, OptW_eq, SlW_eq, VlW_eq, StW_eq, VarW_eq, LiveW_eq, RdW_eq, BlW_eq, IntW_eq, PartW_eq, TgW_eq, TgsW_eq, ObW_eq, IxO_eq, PtW_eq, StO_eq, GcW_eq, PtS_eq]
  first | exact ptW_eq | (simp only [ptW_eq])
theorem w_putS1 (i : Nat) (k e : Ex) : (putS i k e g s).Wp K = (e g s).Wp (fun v s => ((Op.pk i).ev g s).Wp (fun _ s => (k g s).Wp (fun k s => PtW s i k v K.nx) K.ex) fun _ _ => False) K.ex := by
  simp only [ResWp_eq, FlWp_eq, CRWp_eq, OptW_eq, SlW_eq, VlW_eq, StW_eq, VarW_eq, LiveW_eq, RdW_eq, BlW_eq, IntW_eq, PartW_eq, TgW_eq, TgsW_eq, ObW_eq, IxO_eq, PtW_eq, StO_eq, GcW_eq, PtS_eq]
  first | exact w_putS | (simp only [w_putS])
theorem ptO_dics1 {l : List (Cy.K × D)} {v : D} {P : Ob → Prop} : OptW (putO (.dic l) (.str a) v) P = (l.length < lim ∧ P (.dic (dput l (.s a) v))) := by
  simp only [ResWp_eq, FlWp_eq, CRWp_eq, OptW_eq, SlW_eq, VlW_eq, StW_eq, VarW_eq, LiveW_eq, RdW_eq, BlW_eq, IntW_eq, PartW_eq, TgW_eq, TgsW_eq, ObW_eq, IxO_eq, PtW_eq, StO_eq, GcW_eq, PtS_eq]
  first | exact ptO_dics | (simp only [ptO_dics])
theorem ptD_dics1 {l : List (Cy.K × D)} {v : D} {P : D → Prop} : OptW (putD (.dic l) (.str a) v) P = (l.length < lim ∧ P (.dic (dput l (.s a) v))) := by
  simp only [ResWp_eq, FlWp_eq, CRWp_eq, OptW_eq, SlW_eq, VlW_eq, StW_eq, VarW_eq, LiveW_eq, RdW_eq, BlW_eq, IntW_eq, PartW_eq, TgW_eq, TgsW_eq, ObW_eq, IxO_eq, PtW_eq, StO_eq, GcW_eq, PtS_eq]
  first | exact ptD_dics | (simp only [ptD_dics])
theorem ptD_dici1 {l : List (Cy.K × D)} {v : D} {j : Int} {P : D → Prop} : OptW (putD (.dic l) (.int j) v) P = (l.length < lim ∧ P (.dic (dput l (.i j) v))) := by
  simp only [ResWp_eq, FlWp_eq, CRWp_eq, OptW_eq, SlW_eq, VlW_eq, StW_eq, VarW_eq, LiveW_eq, RdW_eq, BlW_eq, IntW_eq, PartW_eq, TgW_eq, TgsW_eq, ObW_eq, IxO_eq, PtW_eq, StO_eq, GcW_eq, PtS_eq]
  first | exact ptD_dici | (simp only [ptD_dici])
end
theorem gcW_le1 {n : Nat} {d : D} {h : List Ob} {Q : D → List Ob → Prop} (e : h.length ≤ n) : GcW n d h Q = Q d h := by rw [GcW_eq]; exact gcW_le e
theorem gcW_same1 {d : D} {h : List Ob} {Q : D → List Ob → Prop} : GcW h.length d h Q = Q d h := gcW_le1 (Nat.le_refl _)
theorem CR.Wp_mono {c : CR} {Q Q' : D → List Ob → Prop} {E E' : Exc → List Ob → Prop} (w : c.Wp Q E) (q : ∀ d h, Q d h → Q' d h) (e : ∀ x h, E x h → E' x h) : c.Wp Q' E' := ⟨CR.wp_mono w.out q e⟩
end Cy

set_option maxRecDepth 1000000
set_option linter.all false
/-! Cy: loops, comprehensions, calls, by plain facts. -/
namespace Cy
theorem optW_of {β : Type} {o : Option β} {a : β} (h : o = some a) (P : β → Prop) : OptW o P = P a := by rw [h, OptW_eq]; rfl
theorem Res.Wp_of {α : Type} {r : Res α} {a : α} {s : S} (h : r = .ok a s) (Q : α → S → Prop) (E : Exc → S → Prop) : r.Wp Q E = Q a s := by rw [h, ResWp_eq]; rfl
theorem Fl.Wp_of {f : Fl} {s : S} (h : f = .nx s) (K : En) : f.Wp K = K.nx s := by rw [h, FlWp_eq]; rfl
theorem CR.Wp_of {c : CR} {d : D} {h' : List Ob} (h : c = .ok d h') (Q : D → List Ob → Prop) (E : Exc → List Ob → Prop) : c.Wp Q E = Q d h' := by rw [h, CRWp_eq]; rfl
theorem Res.Wp_ok {α : Type} {r : Res α} {P : α → S → Prop} (w : r.Wp P fun _ _ => False) : ∃ d s, r = .ok d s ∧ P d s := by
  rw [ResWp_eq] at w
  cases r with
  | bad => exact w.elim
  | ok d s => exact ⟨d, s, rfl, w⟩
  | exc x s => exact w.elim
theorem CR.Wp_ok {c : CR} {P : D → List Ob → Prop} (w : c.Wp P fun _ _ => False) : ∃ d h, c = .ok d h ∧ P d h := CR.wp_ok w.out
/-- a loop that keeps I -/
theorem forL_all {tg : Tg} {b : Bl} {g : G} (I : S → Prop) : ∀ {l : List D}, (∀ d ∈ l, ∀ s, I s → ∃ s1 s2, tg d s = some s1 ∧ b g s1 = .nx s2 ∧ I s2) → ∀ s, I s → ∃ s', forL tg b g l s = .nx s' ∧ I s'
  | [], _, s, h => ⟨s, rfl, h⟩
  | d :: l, hb, s, h => by
    obtain ⟨s1, s2, e1, e2, h2⟩ := hb d List.mem_cons_self s h
    obtain ⟨s3, e3, h3⟩ := forL_all I (fun d hd => hb d (List.mem_cons_of_mem _ hd)) s2 h2
    refine ⟨s3, ?_, h3⟩
    rw [forL, e1]
    simp only [e2]
    exact e3
theorem call_tab {tab : Nm → Option Fn} {k : Nat} {f : Nm} {F : Fn} (e : tab f = some F) (ds : List D) (h : List Ob) : callN tab (k + 1) f ds h = runF F (callN tab k) ds h := by
  show (match tab f with | some F => runF F (callN tab k) ds h | none => .bad) = _
  rw [e]
/-! ### {..} and what is shared -/
section
variable {g : G} {s : S} {E : Exc → S → Prop} {Q : D → S → Prop}
theorem w_pairs_nil {P : List (K × D) → S → Prop} : (pairsE [] g s).Wp P E = P [] s := by rw [ResWp_eq]; rfl
theorem w_pairs_cons {P : List (K × D) → S → Prop} (k v : Ex) (r : List (Ex × Ex)) : (pairsE ((k, v) :: r) g s).Wp P E = (k g s).Wp (fun x s => (v g s).Wp (fun y s => (pairsE r g s).Wp (fun m s => OptW (key? x) fun k => P ((k, y) :: m) s) E) E) E := by
  simp only [ResWp_eq, OptW_eq]
  show Res.wp ((k g s).bind _) P E = _
  rw [wp_bind]
  congr 1
  funext x s
  rw [wp_bind]
  congr 1
  funext y s
  rw [wp_bind]
  congr 1
  funext m s
  cases key? x <;> rfl
theorem w_dic (ps : List (Ex × Ex)) : (dicE ps g s).Wp Q E = (pairsE ps g s).Wp (fun m s => Q (.dic (m.foldl (fun acc p => dput acc p.1 p.2) [])) s) E := by
  simp only [ResWp_eq]
  show Res.wp ((pairsE ps g s).bind _) Q E = _
  rw [wp_bind]; rfl
theorem key_str (a : Nm) (P : K → Prop) : OptW (key? (.str a)) P = P (.s a) := by rw [OptW_eq]; rfl
theorem key_int (a : Int) (P : K → Prop) : OptW (key? (.int a)) P = P (.i a) := by rw [OptW_eq]; rfl
/-- what was made is shared -/
structure RefW (d : D) (s : S) (P : D → S → Prop) (_u : Dep P := .mk) : Prop where
  out : match d with
    | .dic l => noRK 0 l = true ∧ P (.ref s.h.length) { s with h := s.h ++ [.dic l] }
    | .lst l => noRL 0 l = true ∧ P (.ref s.h.length) { s with h := s.h ++ [.lst l] }
    | .dit l => noRT 0 l = true ∧ P (.ref s.h.length) { s with h := s.h ++ [.dit l] }
    | _ => False
theorem refW_dic (l : List (K × D)) : RefW (.dic l) s Q = (noRK 0 l = true ∧ Q (.ref s.h.length) ⟨s.sg, s.h ++ [.dic l]⟩) := propext ⟨fun h => h.out, fun h => ⟨h⟩⟩
theorem refW_lst (l : List D) : RefW (.lst l) s Q = (noRL 0 l = true ∧ Q (.ref s.h.length) ⟨s.sg, s.h ++ [.lst l]⟩) := propext ⟨fun h => h.out, fun h => ⟨h⟩⟩
theorem w_ref (e : Ex) : (refE e g s).Wp Q E = (e g s).Wp (fun d s => RefW d s Q) E := by
  simp only [ResWp_eq]
  show Res.wp ((e g s).bind _) Q E = _
  rw [wp_bind]
  congr 1
  funext d s
  have : ∀ d, RefW d s Q = match d with
    | .dic l => noRK 0 l = true ∧ Q (.ref s.h.length) { s with h := s.h ++ [.dic l] }
    | .lst l => noRL 0 l = true ∧ Q (.ref s.h.length) { s with h := s.h ++ [.lst l] }
    | .dit l => noRT 0 l = true ∧ Q (.ref s.h.length) { s with h := s.h ++ [.dit l] }
    | _ => False := fun d => propext ⟨fun h => h.out, fun h => ⟨h⟩⟩
  rw [this]
  have pick : ∀ (b : Bool) (d' : D) (s' : S), Res.wp (if b = true then .ok d' s' else .bad) Q E = (b = true ∧ Q d' s') := fun b d' s' => by cases b <;> simp [Res.wp]
  cases d with
  | dic l => exact pick _ _ _
  | lst l => exact pick _ _ _
  | dit l => exact pick _ _ _
  | _ => rfl
end
/-! ### comprehensions -/
theorem lp_unset_length (σ : List Sl) : ∀ vs : List Nat, (unset σ vs).length = σ.length
  | [] => rfl
  | v :: vs => by rw [unset, List.length_set, lp_unset_length σ vs]
theorem lp_unset_get (σ : List Sl) : ∀ (vs : List Nat) (i : Nat), i ∉ vs → (unset σ vs)[i]? = σ[i]?
  | [], _, _ => rfl
  | v :: vs, i, h => by
    rw [List.mem_cons, not_or] at h
    rw [unset, List.getElem?_set_ne (Ne.symm h.1), lp_unset_get σ vs i h.2]
theorem lp_back_length (σ σ' : List Sl) : ∀ vs : List Nat, (back σ σ' vs).length = σ'.length
  | [] => rfl
  | v :: vs => by rw [back, List.length_set, lp_back_length σ σ' vs]
theorem lp_back_get (σ σ' : List Sl) (hl : σ.length = σ'.length) : ∀ (vs : List Nat) (i : Nat), (back σ σ' vs)[i]? = if i ∈ vs then σ[i]? else σ'[i]?
  | [], i => by simp [back]
  | v :: vs, i => by
    rw [back]
    by_cases e : v = i
    · subst e
      rw [List.getElem?_set]
      simp only [List.mem_cons, true_or, if_true, lp_back_length]
      by_cases hv : v < σ'.length
      · rw [if_pos hv, List.getD_eq_getElem?_getD, List.getElem?_eq_getElem (by omega)]; rfl
      · rw [if_neg hv, List.getElem?_eq_none (by omega)]
    · rw [List.getElem?_set_ne e, lp_back_get σ σ' hl vs i]
      have : i ≠ v := fun z => e z.symm
      simp only [List.mem_cons, this, false_or]
theorem lp_back_same {σ σ' : List Sl} {vs : List Nat} (h : unset σ' vs = unset σ vs) : back σ σ' vs = σ := by
  have hl : σ.length = σ'.length := by rw [← lp_unset_length σ vs, ← lp_unset_length σ' vs, h]
  refine List.ext_getElem? fun i => ?_
  rw [lp_back_get σ σ' hl]
  by_cases e : i ∈ vs
  · rw [if_pos e]
  · rw [if_neg e, ← lp_unset_get σ' vs i e, h, lp_unset_get σ vs i e]
/-- a turn of a comprehension gives F d, or nothing, and leaves what is around -/
structure TurnOk (tg : Tg) (t : Tx) (e : Ex) (vs : List Nat) (g : G) (σ : List Sl) (h : List Ob) (d : D) (r : Option D) : Prop where
  out : TgW tg d ⟨unset σ vs, h⟩ fun s2 => (t g s2).Wp (fun b s3 => if b = true then (e g s3).Wp (fun x s4 => r = some x ∧ unset s4.sg vs = unset σ vs ∧ s4.h = h) fun _ _ => False else r = none ∧ unset s3.sg vs = unset σ vs ∧ s3.h = h) fun _ _ => False
theorem lp_turns_map {tg : Tg} {t : Tx} {e : Ex} {vs : List Nat} {g : G} {σ : List Sl} {h : List Ob} (F : D → Option D) : ∀ (l : List D) (a : List D) (s : S), unset s.sg vs = unset σ vs → s.h = h → a.length + l.length ≤ lim → (∀ d ∈ l, TurnOk tg t e vs g σ h d (F d)) →
    ∃ s', turns tg t (gathL e) vs g l (.lst a) s = .ok (.lst (a ++ l.filterMap F)) s' ∧ unset s'.sg vs = unset σ vs ∧ s'.h = h
  | [], a, s, h1, h2, _, _ => ⟨s, by simp [turns], h1, h2⟩
  | d :: l, a, s, h1, h2, hl, hb => by
    have T := (hb d List.mem_cons_self).out
    rw [TgW_eq] at T
    unfold tgW at T
    have es : ({ s with sg := unset s.sg vs } : S) = ⟨unset σ vs, h⟩ := by rw [h1, ← h2]
    rw [turns, es]
    cases q : tg d ⟨unset σ vs, h⟩ with
    | none => rw [q] at T; exact T.elim
    | some s2 =>
      rw [q] at T
      have T : (t g s2).Wp _ _ := T
      rw [ResWp_eq] at T
      cases q2 : t g s2 with
      | bad => rw [q2] at T; exact T.elim
      | exc x s3 => rw [q2] at T; exact T.elim
      | ok b s3 =>
        rw [q2] at T
        cases b with
        | false =>
          simp only [Res.wp, Bool.false_eq_true, if_false] at T
          obtain ⟨f1, f2, f3⟩ := T
          obtain ⟨s', e1, e2, e3⟩ := lp_turns_map F l a s3 f2 f3 (by simp only [List.length_cons] at hl; omega) fun d hd => hb d (List.mem_cons_of_mem _ hd)
          refine ⟨s', ?_, e2, e3⟩
          rw [List.filterMap_cons, f1]
          simpa [Res.nox, Res.bind, q2] using e1
        | true =>
          simp only [Res.wp, if_true, ResWp_eq] at T
          cases q3 : e g s3 with
          | bad => rw [q3] at T; exact T.elim
          | exc x s4 => rw [q3] at T; exact T.elim
          | ok x s4 =>
            rw [q3] at T
            obtain ⟨f1, f2, f3⟩ := T
            obtain ⟨s', e1, e2, e3⟩ := lp_turns_map F l (a ++ [x]) s4 f2 f3 (by simp only [List.length_cons, List.length_append, List.length_nil] at hl ⊢; omega) fun d hd => hb d (List.mem_cons_of_mem _ hd)
            refine ⟨s', ?_, e2, e3⟩
            rw [List.filterMap_cons, f1]
            have ha : a.length < lim := by simp only [List.length_cons] at hl; omega
            have e1 : turns tg t (gathL e) vs g l (.lst (a ++ [x])) s4 = .ok (.lst (a ++ x :: l.filterMap F)) s' := by rw [e1, List.append_assoc]; rfl
            simp [Res.nox, Res.bind, q2, gathL, q3, ha, e1]
/-- [e for tg in it if t], its turns known -/
theorem w_comp {it : Ix} {tg : Tg} {t : Tx} {e : Ex} {vs : List Nat} {g : G} {s : S} {Q : D → S → Prop} {E : Exc → S → Prop}
    (w : (it g s).Wp (fun l s1 => l.length ≤ lim ∧ (vs.any fun v => isOwn (s1.sg.getD v .no)) = false ∧ ∃ F : D → Option D, (∀ d ∈ l, TurnOk tg t e vs g s1.sg s1.h d (F d)) ∧ Q (.lst (l.filterMap F)) s1) E) : (comp it tg t e vs g s).Wp Q E := by
  rw [ResWp_eq] at w ⊢
  unfold comp compG
  rw [wp_bind]
  cases q : it g s with
  | bad => rw [q] at w; exact w
  | exc x s1 => rw [q] at w; exact w
  | ok l s1 =>
    rw [q] at w
    obtain ⟨hl, ho, F, hF, hQ⟩ := w
    obtain ⟨s', e1, e2, e3⟩ := lp_turns_map (σ := s1.sg) (h := s1.h) F l [] s1 rfl rfl (by simpa using hl) hF
    show Res.wp (if (vs.any fun v => isOwn (s1.sg.getD v .no)) = true then _ else _) Q E
    rw [ho, if_neg (by decide), e1]
    show Q (.lst ([] ++ l.filterMap F)) { s' with sg := back s1.sg s'.sg vs }
    rw [lp_back_same e2, e3]
    exact hQ
end Cy
namespace Cy
section
variable {P : D → Prop} {l m : List D} {lo hi : Option Int} {h : List Ob}
theorem q_cut_lst : OptW (dCut (.lst l) lo hi) P = P (.lst (cut l lo hi)) := optW_of rfl P
theorem q_cut_tup : OptW (dCut (.tup l) lo hi) P = P (.tup (cut l lo hi)) := optW_of rfl P
theorem q_add_lst : OptW (dAdd (.lst l) (.lst m)) P = (l.length + m.length ≤ lim ∧ P (.lst (l ++ m))) := by
  rw [OptW_eq]
  show optW (if l.length + m.length ≤ lim then some (.lst (l ++ m)) else none) P = _
  by_cases z : l.length + m.length ≤ lim <;> simp [z, optW]
theorem q_add_tup : OptW (dAdd (.tup l) (.tup m)) P = (l.length + m.length ≤ lim ∧ P (.tup (l ++ m))) := by
  rw [OptW_eq]
  show optW (if l.length + m.length ≤ lim then some (.tup (l ++ m)) else none) P = _
  by_cases z : l.length + m.length ≤ lim <;> simp [z, optW]
theorem q_walk_lst {P : List D → Prop} : OptW (walk? (.lst l)) P = P l := optW_of rfl P
theorem q_walk_tup {P : List D → Prop} : OptW (walk? (.tup l)) P = P l := optW_of rfl P
theorem mem_cut {d : D} (hd : d ∈ cut l lo hi) : d ∈ l := List.mem_of_mem_drop (List.mem_of_mem_take hd)
theorem cut_len : (cut l lo hi).length ≤ l.length := by
  unfold cut
  rw [List.length_take, List.length_drop]
  omega
end
end Cy

set_option maxRecDepth 1000000
set_option linter.all false
/-! Cy: twins that the kernel runs faster (recursors written out), each equal to its combinator. -/
namespace Cy
noncomputable section
/-! ### lists -/
def nthF {α : Type} (l : List α) : Nat → Option α := List.rec (motive := fun _ => Nat → Option α) (fun _ => none) (fun x _ ih n => Nat.rec (motive := fun _ => Option α) (some x) (fun m _ => ih m) n) l
theorem nthF_eq {α : Type} : ∀ (l : List α) (i : Nat), nthF l i = l[i]?
  | [], _ => by simp [nthF]
  | x :: l, 0 => rfl
  | x :: l, i + 1 => by
    have := nthF_eq l i
    simpa [nthF] using this
def setF {α : Type} (l : List α) (v : α) : Nat → List α := List.rec (motive := fun _ => Nat → List α) (fun _ => []) (fun x t ih n => Nat.rec (motive := fun _ => List α) (v :: t) (fun m _ => x :: ih m) n) l
theorem setF_eq {α : Type} (v : α) : ∀ (l : List α) (i : Nat), setF l v i = l.set i v
  | [], _ => rfl
  | x :: l, 0 => rfl
  | x :: l, i + 1 => by
    have := setF_eq v l i
    show x :: setF l v i = x :: l.set i v
    rw [this]
def lenF {α : Type} (l : List α) : Nat := List.rec (motive := fun _ => Nat) 0 (fun _ _ ih => Nat.succ ih) l
theorem lenF_eq {α : Type} : ∀ l : List α, lenF l = l.length
  | [] => rfl
  | x :: l => congrArg Nat.succ (lenF_eq l)
def appF {α : Type} (l m : List α) : List α := List.rec (motive := fun _ => List α) m (fun x _ ih => x :: ih) l
theorem appF_eq {α : Type} (m : List α) : ∀ l : List α, appF l m = l ++ m
  | [] => rfl
  | x :: l => congrArg (x :: ·) (appF_eq m l)
def mapF {α β : Type} (f : α → β) (l : List α) : List β := List.rec (motive := fun _ => List β) [] (fun x _ ih => f x :: ih) l
theorem mapF_eq {α β : Type} (f : α → β) : ∀ l : List α, mapF f l = l.map f
  | [] => rfl
  | x :: l => congrArg (f x :: ·) (mapF_eq f l)
def ltB (i n : Nat) : Bool := Nat.blt i n
theorem ltB_iff {i n : Nat} : ltB i n = true ↔ i < n := by unfold ltB; exact iff_of_eq Nat.blt_eq
/-- shorter than lim, told by going along a list of numbers -/
def okLen {α : Type} (l : List α) : Bool := Nat.ble (lenF l) lim
theorem okLen_iff {α : Type} {l : List α} : okLen l = true ↔ l.length ≤ lim := by unfold okLen; rw [lenF_eq, Nat.ble_eq]
def okLen2 {α β : Type} (l : List α) (m : List β) : Bool := Nat.ble (Nat.add (lenF l) (lenF m)) lim
theorem okLen2_iff {α β : Type} {l : List α} {m : List β} : okLen2 l m = true ↔ l.length + m.length ≤ lim := by unfold okLen2; rw [lenF_eq, lenF_eq, Nat.ble_eq]; rfl
def ltLim {α : Type} (l : List α) : Bool := Nat.blt (lenF l) lim
theorem ltLim_iff {α : Type} {l : List α} : ltLim l = true ↔ l.length < lim := by unfold ltLim; rw [lenF_eq]; exact iff_of_eq Nat.blt_eq
theorem bif_if {α : Type} {b : Bool} {p : Prop} [Decidable p] (h : b = true ↔ p) (x y : α) : (Bool.rec (motive := fun _ => α) y x b : α) = if p then x else y := by
  cases b with
  | true => rw [if_pos (h.mp rfl)]
  | false => rw [if_neg fun z => by cases h.mpr z]
/-! ### names -/
def rdF (i : Nat) (s : S) : Option D := match nthF s.sg i with
  | some (.val d) => some d
  | some (.own d) => some d
  | _ => none
theorem rdF_eq : rdF = rdP := by funext i s; unfold rdF rdP; rw [nthF_eq]; try rfl
def varF (i : Nat) : Ex := fun _ s => match nthF s.sg i with
  | some (.val d) => .ok d s
  | some (.own d) => .ok d ⟨setF s.sg (.val d) i, s.h⟩
  | _ => .bad
theorem varF_eq : varF = var := by
  funext i g s; unfold varF var; rw [nthF_eq]
  cases s.sg[i]? with
  | none => rfl
  | some x => cases x <;> first | rfl | (show Res.ok _ (S.mk (setF _ _ _) _) = _; rw [setF_eq])
def evF (i : Nat) (s : S) : Res D := match nthF s.sg i with
  | some .no => .bad
  | some _ => .ok .non s
  | none => .bad
theorem evF_eq : evF = evP := by funext i s; unfold evF evP; rw [nthF_eq]; try rfl
def opEvF (a : Op) (g : G) (s : S) : Res D := match a with
  | .pk i => evF i s
  | .ex e => e g s
def opRdF (a : Op) (x : D) (s : S) : Option D := match a with
  | .pk i => rdF i s
  | .ex _ => some x
theorem opEvF_eq (a : Op) (g : G) (s : S) : opEvF a g s = a.ev g s := by cases a with | pk i => show evF i s = evP i s; rw [evF_eq] | ex e => rfl
theorem opRdF_eq (a : Op) (x : D) (s : S) : opRdF a x s = a.rd x s := by cases a with | pk i => show rdF i s = rdP i s; rw [rdF_eq] | ex e => rfl
def o1F (f : List Ob → D → Option D) (a : Op) : Ex := fun g s => (opEvF a g s).bind fun x s => match opRdF a x s with
  | some d => (match f s.h d with | some r => .ok r s | none => .bad)
  | none => .bad
theorem o1F_eq : o1F = o1 := by funext f a g s; unfold o1F o1; simp only [opEvF_eq, opRdF_eq]; try rfl
def o2F (f : List Ob → D → D → Option D) (a b : Op) : Ex := fun g s => (opEvF a g s).bind fun x s => (opEvF b g s).bind fun y s => match opRdF a x s, opRdF b y s with
  | some d, some e => (match f s.h d e with | some r => .ok r s | none => .bad)
  | _, _ => .bad
theorem o2F_eq : o2F = o2 := by funext f a b g s; unfold o2F o2; simp only [opEvF_eq, opRdF_eq]; try rfl
def cutEF (a : Op) (lo hi : Option Ex) : Ex := fun g s => (opEvF a g s).bind fun x s => (partE lo g s).bind fun l s => (partE hi g s).bind fun u s => match opRdF a x s with
  | some d => (match dCut d l u with | some r => .ok r s | none => .bad)
  | none => .bad
theorem cutEF_eq : cutEF = cutE := by funext a l u g s; unfold cutEF cutE; simp only [opEvF_eq, opRdF_eq]; try rfl
/-! ### rows -/
def aStarF (e : Ex) (r : Ax) : Ax := fun g s => (e g s).bind fun x s => match items? x with
  | some l => (r g s).bind fun xs s => Bool.rec (motive := fun _ => Res (List D)) .bad (.ok (appF l xs) s) (okLen2 l xs)
  | none => .bad
theorem aStarF_eq : aStarF = aStar := by
  funext e r g s; unfold aStarF aStar
  congr 1
  funext x s
  cases items? x with
  | none => rfl
  | some l =>
    show (r g s).bind _ = (r g s).bind _
    congr 1
    funext xs s
    rw [bif_if okLen2_iff, appF_eq]
def tupEF (a : Ax) : Ex := fun g s => (a g s).bind fun l s => Bool.rec (motive := fun _ => Res D) .bad (.ok (.tup l) s) (okLen l)
theorem tupEF_eq : tupEF = tupE := by
  funext a g s; unfold tupEF tupE
  congr 1
  funext l s
  rw [bif_if okLen_iff]
def lstEF (a : Ax) : Ex := fun g s => (a g s).bind fun l s => Bool.rec (motive := fun _ => Res D) .bad (.ok (.lst l) s) (okLen l)
theorem lstEF_eq : lstEF = lstE := by
  funext a g s; unfold lstEF lstE
  congr 1
  funext l s
  rw [bif_if okLen_iff]
/-! ### targets -/
def gNameF (i : Nat) : Tg := fun d s => Bool.rec (motive := fun _ => Option S) none (some ⟨setF s.sg (.val d) i, s.h⟩) (ltB i (lenF s.sg))
theorem gNameF_eq : gNameF = gName := by
  funext i d s; unfold gNameF gName
  rw [bif_if ltB_iff, setF_eq]
  simp only [lenF_eq]
def gTupsF (ts : List Tg) : List D → S → Option S := List.rec (motive := fun _ => List D → S → Option S) (fun ds s => List.rec (motive := fun _ => Option S) (some s) (fun _ _ _ => none) ds) (fun t _ ih ds s => List.rec (motive := fun _ => Option S) none (fun d ds _ => match t d s with | some s => ih ds s | none => none) ds) ts
theorem gTupsF_eq : ∀ (ts : List Tg) (ds : List D) (s : S), gTupsF ts ds s = gTups ts ds s
  | [], [], s => rfl
  | [], _ :: _, s => rfl
  | t :: ts, [], s => rfl
  | t :: ts, d :: ds, s => by
    show (match t d s with | some s => gTupsF ts ds s | none => none) = gTups (t :: ts) (d :: ds) s
    rw [gTups]
    cases t d s with
    | none => rfl
    | some s => exact gTupsF_eq ts ds s
def gTupF (ts : List Tg) : Tg := fun d s => match d with
  | .tup l => gTupsF ts l s
  | .lst l => gTupsF ts l s
  | _ => none
theorem gTupF_eq : gTupF = gTup := by
  funext ts d s; unfold gTupF gTup
  cases d <;> first | rfl | exact gTupsF_eq _ _ _
/-! ### what is walked -/
def numF (l : List D) : Int → List D := List.rec (motive := fun _ => Int → List D) (fun _ => []) (fun x _ ih n => .tup [.int n, x] :: ih (n + 1)) l
theorem numF_eq : ∀ (l : List D) (n : Int), numF l n = numbered n l
  | [], _ => rfl
  | x :: l, n => by
    show D.tup [.int n, x] :: numF l (n + 1) = _
    rw [numF_eq l (n + 1)]; rfl
def zipF (l : List D) : List D → List D := List.rec (motive := fun _ => List D → List D) (fun _ => []) (fun x _ ih m => List.rec (motive := fun _ => List D) [] (fun y ys _ => .tup [x, y] :: ih ys) m) l
theorem zipF_eq : ∀ (l m : List D), zipF l m = zipped l m
  | [], m => by cases m <;> rfl
  | x :: l, [] => rfl
  | x :: l, y :: m => by
    show D.tup [x, y] :: zipF l m = _
    rw [zipF_eq l m]; rfl
def fEnumF (ds : List D) : Option (List D) := match ds with
  | [.lst l] => some (numF l 0)
  | [.fro l] => some (numF l 0)
  | [.tup l] => some (numF l 0)
  | [.frt l] => some (numF l 0)
  | _ => none
theorem fEnumF_eq : fEnumF = fEnumL := by
  funext ds; unfold fEnumF fEnumL
  simp only [numF_eq]
  try rfl
def fZipF (ds : List D) : Option (List D) := match ds with
  | [.lst l, .lst m] => if pairOk (zipF l m) then some (zipF l m) else none
  | [.tup l, .tup m] => if pairOk (zipF l m) then some (zipF l m) else none
  | _ => none
theorem fZipF_eq : fZipF = fZip := by
  funext ds; unfold fZipF fZip
  simp only [zipF_eq]
  try rfl
def dLzipF (x y : D) : Option D := match x, y with
  | .lst l, .lst m => if pairOk (zipF l m) then some (.lst (zipF l m)) else none
  | .tup l, .tup m => if pairOk (zipF l m) then some (.lst (zipF l m)) else none
  | _, _ => none
theorem dLzipF_eq : dLzipF = dLzip := by
  funext x y; unfold dLzipF dLzip
  simp only [zipF_eq]
  try rfl
def uptoF (n : Nat) : Int → List D := Nat.rec (motive := fun _ => Int → List D) (fun _ => []) (fun _ ih lo => .int lo :: ih (lo + 1)) n
theorem uptoF_eq : ∀ (n : Nat) (lo : Int), uptoF n lo = upto lo n
  | 0, _ => rfl
  | n + 1, lo => by
    show D.int lo :: uptoF n (lo + 1) = _
    rw [uptoF_eq n (lo + 1)]; rfl
def fRng1F (ds : List D) : Option (List D) := match ds with
  | [.int j] => if smallI j then some (uptoF j.toNat 0) else none
  | _ => none
theorem fRng1F_eq : fRng1F = fRng1 := by funext ds; unfold fRng1F fRng1; simp only [uptoF_eq]; try rfl
def fRng2F (ds : List D) : Option (List D) := match ds with
  | [.int i, .int j] => if smallI i && smallI j then some (uptoF (j - i).toNat i) else none
  | _ => none
theorem fRng2F_eq : fRng2F = fRng2 := by funext ds; unfold fRng2F fRng2; simp only [uptoF_eq]; try rfl
/-! ### loops -/
def forLF (tg : Tg) (b : Bl) (g : G) (l : List D) : S → Fl := List.rec (motive := fun _ => S → Fl) (fun s => .nx s) (fun d _ ih s => match tg d s with
    | none => .bad
    | some s => match b g s with
      | .nx s => ih s
      | .ct s => ih s
      | .bk s => .nx s
      | f => f) l
theorem forLF_eq (tg : Tg) (b : Bl) (g : G) : ∀ (l : List D) (s : S), forLF tg b g l s = forL tg b g l s
  | [], s => rfl
  | d :: l, s => by
    rw [forL]
    show (match tg d s with | none => Fl.bad | some s => match b g s with | .nx s => forLF tg b g l s | .ct s => forLF tg b g l s | .bk s => .nx s | f => f) = _
    cases tg d s with
    | none => rfl
    | some s =>
      simp only []
      cases b g s with
      | nx s => exact forLF_eq tg b g l s
      | ct s => exact forLF_eq tg b g l s
      | _ => rfl
def forSF (it : Ix) (tg : Tg) (b : Bl) : Bl := fun g s => match it g s with
  | .ok l s => forLF tg b g l s
  | .bad => .bad
  | .exc x h => .exc x h
theorem forSF_eq : forSF = forS := by
  funext it tg b g s; unfold forSF forS
  cases it g s <;> first | rfl | exact forLF_eq _ _ _ _ _
def whileLF (t : Tx) (b : Bl) (g : G) (n : Nat) : S → Fl := Nat.rec (motive := fun _ => S → Fl) (fun _ => .bad) (fun _ ih s => match t g s with
    | .ok true s => (match b g s with
      | .nx s => ih s
      | .ct s => ih s
      | .bk s => .nx s
      | f => f)
    | .ok false s => .nx s
    | .bad => .bad
    | .exc x h => .exc x h) n
theorem whileLF_eq (t : Tx) (b : Bl) (g : G) : ∀ (n : Nat) (s : S), whileLF t b g n s = whileL t b g n s
  | 0, s => rfl
  | n + 1, s => by
    rw [whileL]
    show (match t g s with | .ok true s => (match b g s with | .nx s => whileLF t b g n s | .ct s => whileLF t b g n s | .bk s => .nx s | f => f) | .ok false s => Fl.nx s | .bad => .bad | .exc x h => .exc x h) = _
    cases t g s with
    | ok c s =>
      cases c with
      | false => rfl
      | true =>
        simp only []
        cases b g s with
        | nx s => exact whileLF_eq t b g n s
        | ct s => exact whileLF_eq t b g n s
        | _ => rfl
    | _ => rfl
def whileSF (t : Tx) (b : Bl) : Bl := fun g s => whileLF t b g 1000000 s
theorem whileSF_eq : whileSF = whileS := by funext t b g s; exact whileLF_eq _ _ _ _ _
/-! ### comprehensions -/
def unsetF (σ : List Sl) (vs : List Nat) : List Sl := List.rec (motive := fun _ => List Sl) σ (fun v _ ih => setF ih .no v) vs
theorem unsetF_eq (σ : List Sl) : ∀ vs : List Nat, unsetF σ vs = unset σ vs
  | [] => rfl
  | v :: vs => by
    show setF (unsetF σ vs) .no v = _
    rw [setF_eq, unsetF_eq σ vs]; rfl
def backF (σ σ' : List Sl) (vs : List Nat) : List Sl := List.rec (motive := fun _ => List Sl) σ' (fun v _ ih => setF ih ((nthF σ v).getD .no) v) vs
theorem backF_eq (σ σ' : List Sl) : ∀ vs : List Nat, backF σ σ' vs = back σ σ' vs
  | [] => rfl
  | v :: vs => by
    show setF (backF σ σ' vs) _ v = _
    rw [setF_eq, backF_eq σ σ' vs, nthF_eq, back, List.getD_eq_getElem?_getD]
/-- the elements, made in turn -/
def elemsF (tg : Tg) (t : Tx) (e : Ex) (vs : List Nat) (g : G) (l : List D) : S → Res (List D) := List.rec (motive := fun _ => S → Res (List D)) (fun s => .ok [] s) (fun d _ ih s => match tg d ⟨unsetF s.sg vs, s.h⟩ with
  | none => .bad
  | some s => match t g s with
    | .ok b s => Bool.rec (motive := fun _ => Res (List D)) (ih s) (match e g s with
      | .ok x s => (match ih s with
        | .ok xs s => .ok (x :: xs) s
        | _ => .bad)
      | _ => .bad) b
    | _ => .bad) l
/-- what is gathered behind a -/
def joinF (a : List D) : Res (List D) → Res D
  | .ok xs s => if a.length + xs.length ≤ lim ∨ xs = [] then .ok (.lst (a ++ xs)) s else .bad
  | _ => .bad
theorem turns_elems (tg : Tg) (t : Tx) (e : Ex) (vs : List Nat) (g : G) : ∀ (l : List D) (a : List D) (s : S), (turns tg t (gathL e) vs g l (.lst a) s).nox = joinF a (elemsF tg t e vs g l s)
  | [], a, s => by
    show Res.ok (.lst a) s = if a.length + [].length ≤ lim ∨ ([] : List D) = [] then Res.ok (D.lst (a ++ [])) s else .bad
    rw [if_pos (.inr rfl), List.append_nil]
  | d :: l, a, s => by
    have es : elemsF tg t e vs g (d :: l) s = (match tg d ⟨unsetF s.sg vs, s.h⟩ with
      | none => Res.bad
      | some s => match t g s with
        | .ok b s => Bool.rec (motive := fun _ => Res (List D)) (elemsF tg t e vs g l s) (match e g s with
          | .ok x s => (match elemsF tg t e vs g l s with | .ok xs s => .ok (x :: xs) s | _ => .bad)
          | _ => .bad) b
        | _ => .bad) := rfl
    rw [turns, es, unsetF_eq]
    cases tg d ⟨unset s.sg vs, s.h⟩ with
    | none => rfl
    | some s =>
      simp only []
      cases t g s with
      | bad => rfl
      | exc x s => rfl
      | ok b s =>
        show ((if b = true then _ else _ : Res D)).nox = _
        cases b with
        | false => exact turns_elems tg t e vs g l a s
        | true =>
          rw [if_pos rfl]
          show (((gathL e (.lst a) g s).nox.bind _)).nox = joinF a (match e g s with | .ok x s => _ | _ => .bad)
          unfold gathL
          cases e g s with
          | bad => rfl
          | exc x s => rfl
          | ok x s =>
            show (((if a.length < lim then Res.ok (D.lst (a ++ [x])) s else .bad : Res D).nox.bind _)).nox = joinF a (match elemsF tg t e vs g l s with | .ok xs s => .ok (x :: xs) s | _ => .bad)
            by_cases z : a.length < lim
            · rw [if_pos z]
              show (turns tg t (gathL e) vs g l (.lst (a ++ [x])) s).nox = _
              rw [turns_elems tg t e vs g l (a ++ [x]) s]
              cases elemsF tg t e vs g l s with
              | bad => rfl
              | exc x s => rfl
              | ok xs s =>
                show (if (a ++ [x]).length + xs.length ≤ lim ∨ xs = [] then Res.ok (D.lst (a ++ [x] ++ xs)) s else .bad) = if a.length + (x :: xs).length ≤ lim ∨ x :: xs = [] then Res.ok (D.lst (a ++ x :: xs)) s else .bad
                have e1 : a ++ [x] ++ xs = a ++ x :: xs := by simp
                rw [e1]
                have : ((a ++ [x]).length + xs.length ≤ lim ∨ xs = []) ↔ (a.length + (x :: xs).length ≤ lim ∨ x :: xs = []) := by
                  simp only [List.length_append, List.length_cons, List.length_nil, reduceCtorEq, or_false]
                  constructor
                  · rintro (h | h)
                    · omega
                    · subst h; simp only [List.length_nil]; omega
                  · intro h; left; omega
                by_cases q : (a ++ [x]).length + xs.length ≤ lim ∨ xs = []
                · rw [if_pos q, if_pos (this.mp q)]
                · rw [if_neg q, if_neg fun y => q (this.mpr y)]
            · rw [if_neg z]
              show Res.bad = _
              cases elemsF tg t e vs g l s with
              | bad => rfl
              | exc x s => rfl
              | ok xs s =>
                show Res.bad = if a.length + (x :: xs).length ≤ lim ∨ x :: xs = [] then _ else _
                rw [if_neg]
                simp only [List.length_cons, reduceCtorEq, or_false]
                omega
def anyOwnF (σ : List Sl) (vs : List Nat) : Bool := List.rec (motive := fun _ => Bool) false (fun v _ ih => Bool.rec (motive := fun _ => Bool) ih true (isOwn ((nthF σ v).getD .no))) vs
theorem anyOwnF_eq (σ : List Sl) : ∀ vs : List Nat, anyOwnF σ vs = vs.any fun v => isOwn (σ.getD v .no)
  | [] => rfl
  | v :: vs => by
    show (Bool.rec (motive := fun _ => Bool) (anyOwnF σ vs) true (isOwn ((nthF σ v).getD .no)) : Bool) = _
    rw [List.any_cons, ← anyOwnF_eq σ vs, nthF_eq, List.getD_eq_getElem?_getD]
    cases isOwn ((σ[v]?).getD .no) <;> rfl
def compF (it : Ix) (tg : Tg) (t : Tx) (e : Ex) (vs : List Nat) : Ex := fun g s => match it g s with
  | .bad => .bad
  | .exc x s => .exc x s
  | .ok l s1 => Bool.rec (motive := fun _ => Res D) (match elemsF tg t e vs g l s1 with
    | .ok xs s2 => Bool.rec (motive := fun _ => Res D) .bad (.ok (.lst xs) ⟨backF s1.sg s2.sg vs, s2.h⟩) (okLen xs)
    | _ => .bad) .bad (anyOwnF s1.sg vs)
theorem compF_eq : compF = comp := by
  funext it tg t e vs g s
  unfold compF comp compG
  cases it g s with
  | bad => rfl
  | exc x s => rfl
  | ok l s1 =>
    show (Bool.rec (motive := fun _ => Res D) _ Res.bad (anyOwnF s1.sg vs) : Res D) = if (vs.any fun v => isOwn (s1.sg.getD v .no)) = true then Res.bad else _
    rw [anyOwnF_eq]
    cases (vs.any fun v => isOwn (s1.sg.getD v .no)) with
    | true => rfl
    | false =>
      simp only [Bool.false_eq_true, if_false]
      rw [turns_elems]
      cases elemsF tg t e vs g l s1 with
      | bad => rfl
      | exc x s => rfl
      | ok xs s2 =>
        show (Bool.rec (motive := fun _ => Res D) Res.bad (Res.ok (.lst xs) ⟨backF s1.sg s2.sg vs, s2.h⟩) (okLen xs) : Res D) = (if ([] : List D).length + xs.length ≤ lim ∨ xs = [] then Res.ok (D.lst ([] ++ xs)) s2 else .bad).bind _
        rw [bif_if okLen_iff, backF_eq]
        by_cases z : xs.length ≤ lim
        · rw [if_pos z, if_pos (.inl (by simpa using z))]; rfl
        · rw [if_neg z, if_neg]
          · rfl
          · rintro (h | h)
            · exact z (by simpa using h)
            · subst h; exact z (by unfold lim; decide)
/-! ### calls -/
def arrangeF (p : List (Sum Nat D)) (ds : List D) : Option (List D) := List.rec (motive := fun _ => Option (List D)) (some []) (fun q _ ih => match (match q with | .inl i => nthF ds i | .inr d => some d) with
  | some d => (match ih with | some r => some (d :: r) | none => none)
  | none => none) p
theorem arrangeF_eq (ds : List D) : ∀ p : List (Sum Nat D), arrangeF p ds = arrange p ds
  | [] => rfl
  | q :: p => by
    show (match (match q with | .inl i => nthF ds i | .inr d => some d) with | some d => (match arrangeF p ds with | some r => some (d :: r) | none => none) | none => none) = _
    rw [arrangeF_eq ds p]
    unfold arrange
    rw [List.mapM_cons]
    cases q with
    | inl i =>
      simp only [nthF_eq]
      cases ds[i]? with
      | none => rfl
      | some d =>
        show (match List.mapM _ p with | some r => some (d :: r) | none => none) = _
        cases h : List.mapM (m := Option) (fun q => match q with | Sum.inl i => ds[i]? | Sum.inr d => some d) p <;> simp [h]
    | inr d =>
      show (match List.mapM _ p with | some r => some (d :: r) | none => none) = _
      cases h : List.mapM (m := Option) (fun q => match q with | Sum.inl i => ds[i]? | Sum.inr d => some d) p <;> simp [h]
def callKF (f : Nm) (n : Nat) (a k : Ax) (p : List (Sum Nat D)) : Ex := fun g s => (a g s).bind fun xs s => (k g s).bind fun ys s => Bool.rec (motive := fun _ => Res D) .bad (match arrangeF p (appF xs ys) with
  | none => .bad
  | some es => (match g f es s.h with
    | .bad => .bad
    | .ok d h => .ok d ⟨s.sg, h⟩
    | .exc x h => .exc x ⟨s.sg, h⟩)) (Nat.beq (lenF xs) n)
theorem callKF_eq : callKF = callK := by
  funext f n a k p g s; unfold callKF callK
  congr 1
  funext xs s
  congr 1
  funext ys s
  rw [bif_if (b := Nat.beq (lenF xs) n) (p := xs.length = n) (by rw [lenF_eq, Nat.beq_eq]), arrangeF_eq, appF_eq]
  try rfl
/-! ### in place -/
def takeF (i : Nat) (e : Ex) : Bl := fun g s => match e g s with
  | .ok d s => Bool.rec (motive := fun _ => Fl) .bad (.nx ⟨setF s.sg (Bool.rec (motive := fun _ => Sl) (.val d) (.own d) (ownable d)) i, s.h⟩) (ltB i (lenF s.sg))
  | .bad => .bad
  | .exc x h => .exc x h
theorem takeF_eq : takeF = take := by
  funext i e g s; unfold takeF take
  cases e g s with
  | ok d s =>
    show (Bool.rec (motive := fun _ => Fl) Fl.bad _ (ltB i (lenF s.sg)) : Fl) = _
    have e2 : (Bool.rec (motive := fun _ => Sl) (.val d) (.own d) (ownable d) : Sl) = if ownable d = true then .own d else .val d := bif_if Iff.rfl _ _
    rw [bif_if ltB_iff, lenF_eq, setF_eq, e2]
  | _ => rfl
def lstOfF (s : S) (i : Nat) : Option (List D) := match nthF s.sg i with
  | some (.own (.lst l)) => some l
  | some (.val (.ref n)) => (match nthF s.h n with
    | some (.lst l) => some l
    | _ => none)
  | _ => none
theorem lstOfF_eq : lstOfF = lstOf := by funext s i; unfold lstOfF lstOf; simp only [nthF_eq]; try rfl
def putLF (s : S) (i : Nat) (l : List D) : S := match nthF s.sg i with
  | some (.val (.ref n)) => setOb s n (.lst l)
  | _ => ⟨setF s.sg (.own (.lst l)) i, s.h⟩
theorem putLF_eq : putLF = putL := by funext s i l; unfold putLF putL; simp only [nthF_eq, setF_eq]; try rfl
def okStF (s : S) (i : Nat) (b : Bool) : Bool := match nthF s.sg i with
  | some (.val (.ref _)) => b
  | _ => true
theorem okStF_eq : okStF = okSt := by funext s i b; unfold okStF okSt; simp only [nthF_eq]; try rfl
theorem if_conj {α : Type} {p : Prop} {b : Bool} [Decidable p] (x y : α) : (if p ∧ b = true then x else y) = if p then (Bool.rec (motive := fun _ => α) y x b) else y := by
  by_cases hp : p
  · cases b <;> simp [hp]
  · simp [hp]
def appEF (i : Nat) (e : Ex) : Ex := fun g s => Bool.rec (motive := fun _ => Res D) .bad ((e g s).bind fun d s1 => (match lstOfF s1 i with
    | some l => Bool.rec (motive := fun _ => Res D) .bad (Bool.rec (motive := fun _ => Res D) .bad (.ok .non (putLF s1 i (appF l [d]))) (okStF s1 i (noR 0 d))) (ltLim l)
    | none => .bad)) (lstOfF s i).isSome
theorem appEF_eq : appEF = appE := by
  funext i e g s; unfold appEF appE
  rw [lstOfF_eq, bif_if Iff.rfl, putLF_eq]
  congr 1
  congr 1
  funext d s1
  cases lstOf s1 i with
  | none => rfl
  | some l =>
    show (Bool.rec (motive := fun _ => Res D) _ _ (ltLim l) : Res D) = _
    rw [bif_if ltLim_iff, appF_eq, okStF_eq]
    exact (if_conj _ _).symm
def extEF (i : Nat) (e : Ex) : Ex := fun g s => Bool.rec (motive := fun _ => Res D) .bad ((e g s).bind fun d s1 => (match lstOfF s1 i with
    | some l => (match d with | .lst m => Bool.rec (motive := fun _ => Res D) .bad (Bool.rec (motive := fun _ => Res D) .bad (.ok .non (putLF s1 i (appF l m))) (okStF s1 i (noRL 0 m))) (okLen2 l m) | _ => .bad)
    | none => .bad)) (lstOfF s i).isSome
theorem extEF_eq : extEF = extE := by
  funext i e g s; unfold extEF extE
  rw [lstOfF_eq, bif_if Iff.rfl, putLF_eq]
  congr 1
  congr 1
  funext d s1
  cases lstOf s1 i with
  | none => rfl
  | some l =>
    cases d with
    | lst m =>
      show (Bool.rec (motive := fun _ => Res D) _ _ (okLen2 l m) : Res D) = _
      rw [bif_if okLen2_iff, appF_eq, okStF_eq]
      exact (if_conj _ _).symm
    | _ => rfl
/-! ### operators -/
def dAddF (x y : D) : Option D := match x, y with
  | .int i, .int j => some (.int (i + j))
  | .str x, .str y => Bool.rec (motive := fun _ => Option D) none (some (.str (appF x y))) (okLen2 x y)
  | .tup x, .tup y => Bool.rec (motive := fun _ => Option D) none (some (.tup (appF x y))) (okLen2 x y)
  | .lst x, .lst y => Bool.rec (motive := fun _ => Option D) none (some (.lst (appF x y))) (okLen2 x y)
  | _, _ => none
theorem dAddF_eq : dAddF = dAdd := by
  funext x y; unfold dAddF dAdd
  simp only [bif_if okLen2_iff, appF_eq]
  try rfl
def dLenF (h : List Ob) (x : D) : Option D := match x with
  | .tup l => some (.int (.ofNat (lenF l)))
  | .lst l => some (.int (.ofNat (lenF l)))
  | x => dLen h x
theorem dLenF_eq : dLenF = dLen := by
  funext h x; unfold dLenF
  cases x <;> first | rfl | (simp only [lenF_eq]; rfl)
def atF (l : List D) (i : Int) : Option D := match i with
  | .ofNat n => nthF l n
  | .negSucc _ => atI l i
theorem atF_eq (l : List D) (i : Int) : atF l i = atI l i := by
  cases i with
  | negSucc n => rfl
  | ofNat n =>
    show nthF l n = atI l (n : Int)
    unfold atI ixN
    rw [nthF_eq, if_pos (Int.natCast_nonneg n)]
    by_cases z : (n : Int) < l.length
    · rw [if_pos z]; simp
    · rw [if_neg z, List.getElem?_eq_none (by omega)]
def dIxF (h : List Ob) (x y : D) : Option D := match x with
  | .tup l => (match y with | .int i => atF l i | _ => none)
  | .lst l => (match y with | .int i => atF l i | _ => none)
  | x => dIx h x y
theorem dIxF_eq : dIxF = dIx := by
  funext h x y; unfold dIxF
  cases x <;> first | rfl | (cases y <;> first | rfl | exact atF_eq _ _)
/-! ### data that is alike -/
def nbeq (x : Nm) : Nm → Bool := List.rec (motive := fun _ => Nm → Bool) (fun y => List.rec (motive := fun _ => Bool) true (fun _ _ _ => false) y) (fun a _ ih y => List.rec (motive := fun _ => Bool) false (fun b t _ => Bool.rec (motive := fun _ => Bool) false (ih t) (Nat.beq a b)) y) x
theorem nbeq_eq : ∀ x y : Nm, nbeq x y = (x == y)
  | [], [] => rfl
  | [], _ :: _ => rfl
  | _ :: _, [] => rfl
  | a :: x, b :: y => by
    show (Bool.rec (motive := fun _ => Bool) false (nbeq x y) (Nat.beq a b) : Bool) = _
    rw [nbeq_eq x y]
    have : (a :: x == b :: y) = (a == b && x == y) := rfl
    rw [this]
    have e2 : (a == b) = Nat.beq a b := by
      cases h : Nat.beq a b with
      | true => rw [Nat.eq_of_beq_eq_true h]; exact beq_self_eq_true b
      | false => exact beq_eq_false_iff_ne.mpr (Nat.ne_of_beq_eq_false h)
    rw [e2]
    cases Nat.beq a b <;> rfl
/-- data, folded: leaves, tuples, lists -/
def plF (d : D) : Nat → Bool := D.rec (motive_1 := fun _ => Nat → Bool) (motive_2 := fun _ => Nat → Bool) (motive_3 := fun _ => Unit) (motive_4 := fun _ => Unit) (motive_5 := fun _ => Unit) (motive_6 := fun _ => Unit)
  (fun _ => true) (fun _ _ => true) (fun _ _ => true) (fun s _ => s.all fun c => Nat.blt c 1114112) (fun _ ih n => Nat.rec (motive := fun _ => Bool) false (fun m _ => ih m) n) (fun _ ih n => Nat.rec (motive := fun _ => Bool) false (fun m _ => ih m) n)
  (fun _ _ _ => false) (fun _ _ _ => false) (fun _ _ => false) (fun _ _ _ => false) (fun _ _ _ => false) (fun _ _ _ => false)
  (fun _ => true) (fun _ _ h t n => Bool.rec (motive := fun _ => Bool) false (t n) (h n)) () (fun _ _ _ _ => ()) () (fun _ _ _ _ => ()) (fun _ _ _ => ()) (fun _ _ _ => ()) d
end
end Cy
namespace Cy
noncomputable section
def startF (F : Fn) (ds : List D) : List Sl := appF (mapF .val ds) (Nat.rec (motive := fun _ => List Sl) [] (fun _ ih => .no :: ih) (Nat.sub F.ns F.np))
theorem startF_eq (F : Fn) (ds : List D) : startF F ds = start F ds := by
  unfold startF start
  rw [appF_eq, mapF_eq]
  congr 1
  generalize h : F.ns - F.np = n
  show (Nat.rec (motive := fun _ => List Sl) [] (fun _ ih => .no :: ih) (F.ns - F.np) : List Sl) = _
  rw [h]
  clear h
  induction n with
  | zero => rfl
  | succ n ih => rw [List.replicate_succ, ← ih]
def gcF (n : Nat) (c : CR) : CR := match c with
  | .ok d h => Bool.rec (motive := fun _ => CR) (Bool.rec (motive := fun _ => CR) (.ok d h) (.ok d (h.take n)) (noR n d)) (.ok d h) (Nat.ble (lenF h) n)
  | .bad => .bad
  | .exc x h => .exc x h
theorem gcF_eq (n : Nat) (c : CR) : gcF n c = c.gc n := by
  cases c with
  | ok d h =>
    show (Bool.rec (motive := fun _ => CR) (Bool.rec (motive := fun _ => CR) (.ok d h) (.ok d (h.take n)) (noR n d)) (.ok d h) (Nat.ble (lenF h) n) : CR) = if h.length ≤ n then .ok d h else if noR n d then .ok d (h.take n) else .ok d h
    rw [bif_if (b := Nat.ble (lenF h) n) (p := h.length ≤ n) (by rw [lenF_eq, Nat.ble_eq]), bif_if (b := noR n d) (p := noR n d = true) Iff.rfl]
  | _ => rfl
def runFF (F : Fn) (g : G) (ds : List D) (h : List Ob) : CR := Bool.rec (motive := fun _ => CR) .bad (gcF (lenF h) (F.body g ⟨startF F ds, h⟩).out) (Nat.beq (lenF ds) F.np)
theorem runFF_eq : runFF = runF := by
  funext F g ds h; unfold runFF runF
  rw [bif_if (b := Nat.beq (lenF ds) F.np) (p := ds.length = F.np) (by rw [lenF_eq, Nat.beq_eq]), startF_eq, gcF_eq, lenF_eq]
def callF (tab : Nm → Option Fn) (n : Nat) : G := Nat.rec (motive := fun _ => G) (fun _ _ _ => .bad) (fun _ ih f ds h => match tab f with
  | some F => runFF F ih ds h
  | none => .bad) n
theorem callF_eq (tab : Nm → Option Fn) : ∀ n : Nat, callF tab n = callN tab n
  | 0 => rfl
  | n + 1 => by
    funext f ds h
    show (match tab f with | some F => runFF F (callF tab n) ds h | none => .bad) = (match tab f with | some F => runF F (callN tab n) ds h | none => .bad)
    rw [callF_eq tab n, runFF_eq]
def lookF (x : Nm) (l : List (Nm × Fn)) : Option Fn := List.rec (motive := fun _ => Option Fn) none (fun p _ ih => Bool.rec (motive := fun _ => Option Fn) ih (some p.2) (nbeq x p.1)) l
theorem lookF_eq (x : Nm) : ∀ l : List (Nm × Fn), lookF x l = l.lookup x
  | [] => rfl
  | p :: l => by
    show (Bool.rec (motive := fun _ => Option Fn) (lookF x l) (some p.2) (nbeq x p.1) : Option Fn) = _
    rw [nbeq_eq, lookF_eq x l]
    obtain ⟨k, b⟩ := p
    rw [List.lookup_cons]
    cases x == k <;> rfl
end
end Cy

set_option maxRecDepth 1000000
set_option linter.all false
/-! Cy: further wishes: lists that change, comprehensions and loops over typed rows. -/
namespace Cy
theorem lim_of {n : Nat} (h : n ≤ 1000000) : n ≤ lim := by unfold lim; omega
theorem le_lim {n : Nat} (h : n ≤ 1000000) : (n ≤ lim) = True := by simp only [lim, eq_iff_iff, iff_true]; omega
theorem lt_lim {n : Nat} (h : n ≤ 1000000) : (n < lim) = True := by simp only [lim, eq_iff_iff, iff_true]; omega
theorem ors {p q : Prop} (h : p = q) (a : q) : p := h ▸ a
section
variable {g : G} {σ : List Sl} {h : List Ob} {s : S} {E : Exc → S → Prop} {K : En}
/-- the list of a name, and the state with another one there -/
structure LstW (s : S) (i : Nat) (P : List D → (List D → S) → (Bool → Bool) → Prop) (_u : Dep P := .mk) : Prop where
  out : ∃ l, lstOf s i = some l ∧ P l (putL s i) (okSt s i)
structure LsvW (x : Sl) (σ : List Sl) (i : Nat) (h : List Ob) (P : List D → (List D → S) → (Bool → Bool) → Prop) (_u : Dep P := .mk) : Prop where
  out : match x with
    | .own (.lst l) => P l (fun l' => ⟨σ.set i (.own (.lst l')), h⟩) fun _ => true
    | .val (.ref n) => (match h[n]? with
      | some (.lst l) => P l (fun l' => ⟨σ, h.set n (.lst l')⟩) fun b => b
      | _ => False)
    | _ => False
theorem lsv_own (l : List D) (i : Nat) (P : List D → (List D → S) → (Bool → Bool) → Prop) : LsvW (.own (.lst l)) σ i h P = P l (fun l' => ⟨σ.set i (.own (.lst l')), h⟩) (fun _ => true) := propext ⟨fun h => h.out, fun h => ⟨h⟩⟩
theorem lstW_eq (i : Nat) (P : List D → (List D → S) → (Bool → Bool) → Prop) : LstW ⟨σ, h⟩ i P = SlW σ i fun x => LsvW x σ i h P := by
  refine propext ⟨fun ⟨l, e, p⟩ => ?_, fun w => ?_⟩
  · rw [SlW_eq, slW_eq]
    unfold lstOf at e
    unfold putL at p
    cases q : σ[i]? with
    | none => simp [q] at e
    | some x =>
      simp only [q, optW_some] at e p ⊢
      cases x with
      | no => cases e
      | own d =>
        cases d with
        | lst m =>
          cases e
          have o : okSt ⟨σ, h⟩ i = fun _ => true := by funext b; simp [okSt, q]
          rw [o] at p
          exact ⟨p⟩
        | _ => cases e
      | val d =>
        cases d with
        | ref n =>
          simp only at e
          refine ⟨?_⟩
          simp only
          cases q2 : h[n]? with
          | none => rw [q2] at e; cases e
          | some o =>
            rw [q2] at e
            cases o with
            | lst m =>
              cases e
              have o : okSt ⟨σ, h⟩ i = fun b => b := by funext b; simp [okSt, q]
              rw [o] at p
              exact p
            | _ => cases e
        | _ => cases e
  · rw [SlW_eq, slW_eq] at w
    cases q : σ[i]? with
    | none => rw [q] at w; exact w.elim
    | some x =>
      rw [q] at w
      have w : LsvW x σ i h P := w
      have w := w.out
      cases x with
      | no => exact w.elim
      | own d =>
        cases d with
        | lst m => exact ⟨m, by simp [lstOf, q], by
          have e : putL ⟨σ, h⟩ i = fun l' => ⟨σ.set i (.own (.lst l')), h⟩ := by funext l'; simp [putL, q]
          have o : okSt ⟨σ, h⟩ i = fun _ => true := by funext b; simp [okSt, q]
          rw [e, o]; exact w⟩
        | _ => exact w.elim
      | val d =>
        cases d with
        | ref n =>
          simp only at w
          cases q2 : h[n]? with
          | none => rw [q2] at w; exact w.elim
          | some o =>
            rw [q2] at w
            cases o with
            | lst m => exact ⟨m, by simp [lstOf, q, q2], by
                have e : putL ⟨σ, h⟩ i = fun l' => ⟨σ, h.set n (.lst l')⟩ := by funext l'; simp [putL, q, setOb]
                have o : okSt ⟨σ, h⟩ i = fun b => b := by funext b; simp [okSt, q]
                rw [e, o]; exact w⟩
            | _ => exact w.elim
        | _ => exact w.elim
theorem w_app {Q : D → S → Prop} (i : Nat) (e : Ex) : (appE i e g s).Wp Q E = LstW s i fun _ _ _ => (e g s).Wp (fun d s1 => LstW s1 i fun l put ok => l.length < lim ∧ ok (noR 0 d) = true ∧ Q .non (put (l ++ [d]))) E := by
  rw [ResWp_eq]
  unfold appE
  refine propext ⟨fun w => ?_, fun ⟨l0, e0, w⟩ => ?_⟩
  · cases q : lstOf s i with
    | none => rw [q] at w; exact w.elim
    | some l =>
      rw [q] at w
      refine ⟨l, q, ?_⟩
      simp only [Option.isSome_some, if_true] at w
      rw [wp_bind] at w
      rw [ResWp_eq]
      cases q2 : e g s with
      | bad => rw [q2] at w; exact w
      | exc x s => rw [q2] at w; exact w
      | ok d s1 =>
        rw [q2] at w
        simp only [wp_ok] at w
        show LstW s1 i _
        cases q3 : lstOf s1 i with
        | none => rw [q3] at w; exact w.elim
        | some l =>
          rw [q3] at w
          refine ⟨l, q3, ?_⟩
          by_cases z : l.length < lim ∧ okSt s1 i (noR 0 d) = true
          · simp only [if_pos z] at w; exact ⟨z.1, z.2, w⟩
          · simp only [if_neg z] at w; exact w.elim
  · rw [e0]
    simp only [Option.isSome_some, if_true]
    rw [wp_bind]
    rw [ResWp_eq] at w
    cases q2 : e g s with
    | bad => rw [q2] at w; exact w
    | exc x s => rw [q2] at w; exact w
    | ok d s1 =>
      rw [q2] at w
      obtain ⟨l, q3, z, z2, w⟩ := w.out
      simp only [wp_ok]
      rw [q3]
      simp only [if_pos (show l.length < lim ∧ okSt s1 i (noR 0 d) = true from ⟨z, z2⟩)]
      exact w
theorem w_ext {Q : D → S → Prop} (i : Nat) (e : Ex) : (extE i e g s).Wp Q E = LstW s i fun _ _ _ => (e g s).Wp (fun d s1 => LstW s1 i fun l put ok => ∃ m, d = .lst m ∧ l.length + m.length ≤ lim ∧ ok (noRL 0 m) = true ∧ Q .non (put (l ++ m))) E := by
  rw [ResWp_eq]
  unfold extE
  refine propext ⟨fun w => ?_, fun ⟨l0, e0, w⟩ => ?_⟩
  · cases q : lstOf s i with
    | none => rw [q] at w; exact w.elim
    | some l =>
      rw [q] at w
      refine ⟨l, q, ?_⟩
      simp only [Option.isSome_some, if_true] at w
      rw [wp_bind] at w
      rw [ResWp_eq]
      cases q2 : e g s with
      | bad => rw [q2] at w; exact w
      | exc x s => rw [q2] at w; exact w
      | ok d s1 =>
        rw [q2] at w
        simp only [wp_ok] at w
        show LstW s1 i _
        cases q3 : lstOf s1 i with
        | none => rw [q3] at w; exact w.elim
        | some l =>
          rw [q3] at w
          refine ⟨l, q3, ?_⟩
          cases d with
          | lst m =>
            by_cases z : l.length + m.length ≤ lim ∧ okSt s1 i (noRL 0 m) = true
            · simp only [if_pos z] at w; exact ⟨m, rfl, z.1, z.2, w⟩
            · simp only [if_neg z] at w; exact w.elim
          | _ => exact w.elim
  · rw [e0]
    simp only [Option.isSome_some, if_true]
    rw [wp_bind]
    rw [ResWp_eq] at w
    cases q2 : e g s with
    | bad => rw [q2] at w; exact w
    | exc x s => rw [q2] at w; exact w
    | ok d s1 =>
      rw [q2] at w
      obtain ⟨l, q3, m, rfl, z, z2, w⟩ := w.out
      simp only [wp_ok]
      rw [q3]
      simp only [if_pos (show l.length + m.length ≤ lim ∧ okSt s1 i (noRL 0 m) = true from ⟨z, z2⟩)]
      exact w
theorem ext_lst {P : List D → Prop} {l : List D} : (∃ m, D.lst l = .lst m ∧ P m) = P l := propext ⟨fun ⟨_, e, p⟩ => by cases e; exact p, fun p => ⟨l, rfl, p⟩⟩
/-! ### loops -/
/-- a loop by what is left to walk -/
theorem forL_w {α : Type} {tg : Tg} {b : Bl} (e : α → D) (I : List α → S → Prop)
    (hb : ∀ x xs s, I (x :: xs) s → TgW tg (e x) s fun s1 => (b g s1).Wp ⟨I xs, K.rt, K.nx, I xs, K.ex⟩) (hn : ∀ s, I [] s → K.nx s) : ∀ (xs : List α) (s : S), I xs s → (forL tg b g (xs.map e) s).Wp K
  | [], s, h => by rw [FlWp_eq]; exact hn s h
  | x :: xs, s, h => by
    rw [List.map_cons, w_forL_cons1]
    have w := hb x xs s h
    rw [TgW_eq] at w ⊢
    unfold tgW at w ⊢
    cases q : tg (e x) s with
    | none => rw [q] at w; exact w
    | some s1 =>
      rw [q] at w
      have w : (b g s1).Wp _ := w
      show (b g s1).Wp _
      rw [FlWp_eq] at w ⊢
      cases q2 : b g s1 with
      | bad => rw [q2] at w; exact w
      | nx s2 => rw [q2] at w; exact forL_w e I hb hn xs s2 w
      | ct s2 => rw [q2] at w; exact forL_w e I hb hn xs s2 w
      | bk s2 => rw [q2] at w; exact w
      | rt d h => rw [q2] at w; exact w
      | exc x s => rw [q2] at w; exact w
theorem forL_l {tg : Tg} {b : Bl} (I : List D → S → Prop)
    (hb : ∀ x xs s, I (x :: xs) s → TgW tg x s fun s1 => (b g s1).Wp ⟨I xs, K.rt, K.nx, I xs, K.ex⟩) (hn : ∀ s, I [] s → K.nx s) (xs : List D) (s : S) (h : I xs s) : (forL tg b g xs s).Wp K := by
  have := forL_w (g := g) (K := K) id I hb hn xs s h
  rwa [List.map_id] at this
theorem w_while (t : Tx) (b : Bl) (I : Nat → S → Prop) (hb : ∀ n s, I n s → (t g s).Wp (fun c s1 => if c = true then ∃ m, n = m + 1 ∧ (b g s1).Wp ⟨I m, K.rt, K.nx, I m, K.ex⟩ else K.nx s1) K.ex) :
    ∀ (n : Nat) (s : S), n < 1000000 → I n s → (whileS t b g s).Wp K := by
  have main : ∀ (f n : Nat) (s : S), n < f → I n s → (whileL t b g f s).Wp K := by
    intro f
    induction f with
    | zero => intro n s h; omega
    | succ f ih =>
      intro n s hn hI
      have w := hb n s hI
      rw [ResWp_eq] at w
      rw [FlWp_eq]
      unfold whileL
      cases q : t g s with
      | bad => rw [q] at w; exact w
      | exc x s => rw [q] at w; exact w
      | ok c s1 =>
        rw [q] at w
        cases c with
        | false => exact w
        | true =>
          obtain ⟨m, rfl, w⟩ := w
          rw [FlWp_eq] at w
          simp only
          cases q2 : b g s1 with
          | bad => rw [q2] at w; exact w
          | nx s2 => rw [q2] at w; exact (ih m s2 (by omega) w).out
          | ct s2 => rw [q2] at w; exact (ih m s2 (by omega) w).out
          | bk s2 => rw [q2] at w; exact w
          | rt d h => rw [q2] at w; exact w
          | exc x s => rw [q2] at w; exact w
  intro n s hn hI
  exact main 1000000 n s hn hI
/-- [e for tg in it if t], its turns known by what they are made of -/
theorem turns_map {α : Type} {tg : Tg} {t : Tx} {e : Ex} {vs : List Nat} (f : α → D) (F : α → Option D) (xs : List α) (hb : ∀ x ∈ xs, TurnOk tg t e vs g σ h (f x) (F x)) :
    ∀ d ∈ xs.map f, ∃ r, TurnOk tg t e vs g σ h d r := fun d hd => by
  obtain ⟨x, hx, rfl⟩ := List.mem_map.mp hd
  exact ⟨_, hb x hx⟩
theorem lp_turns_typed {α : Type} {tg : Tg} {t : Tx} {e : Ex} {vs : List Nat} (f : α → D) (F : α → Option D) : ∀ (l : List α) (a : List D) (s : S), unset s.sg vs = unset σ vs → s.h = h → a.length + l.length ≤ lim → (∀ x ∈ l, TurnOk tg t e vs g σ h (f x) (F x)) →
    ∃ s', turns tg t (gathL e) vs g (l.map f) (.lst a) s = .ok (.lst (a ++ l.filterMap F)) s' ∧ unset s'.sg vs = unset σ vs ∧ s'.h = h
  | [], a, s, h1, h2, _, _ => ⟨s, by simp [turns], h1, h2⟩
  | x :: l, a, s, h1, h2, hl, hb => by
    have hx := hb x List.mem_cons_self
    obtain ⟨s1, e1, u1, v1⟩ := lp_turns_map (fun _ => F x) [f x] a s h1 h2 (by simp only [List.length_cons, List.length_nil] at hl ⊢; omega) (by simpa using hx)
    have step : turns tg t (gathL e) vs g (f x :: l.map f) (.lst a) s = (turns tg t (gathL e) vs g [f x] (.lst a) s).bind fun d s => turns tg t (gathL e) vs g (l.map f) d s := by
      show (match tg (f x) { s with sg := unset s.sg vs } with | none => Res.bad | some s => (t g s).nox.bind fun b s => if b then (gathL e (.lst a) g s).nox.bind fun acc s => turns tg t (gathL e) vs g (l.map f) acc s else turns tg t (gathL e) vs g (l.map f) (.lst a) s) =
        Res.bind (match tg (f x) { s with sg := unset s.sg vs } with | none => Res.bad | some s => (t g s).nox.bind fun b s => if b then (gathL e (.lst a) g s).nox.bind fun acc s => turns tg t (gathL e) vs g [] acc s else turns tg t (gathL e) vs g [] (.lst a) s) _
      cases tg (f x) { s with sg := unset s.sg vs } with
      | none => rfl
      | some s2 =>
        simp only
        cases (t g s2).nox with
        | bad => rfl
        | exc x s => rfl
        | ok b s3 =>
          cases b with
          | false => rfl
          | true =>
            simp only [Res.bind, if_true]
            cases (gathL e (.lst a) g s3).nox <;> rfl
    have hlen : (a ++ [f x].filterMap fun _ => F x).length ≤ a.length + 1 := by
      rw [List.length_append]
      have := List.length_filterMap_le (fun _ => F x) [f x]
      simp only [List.length_cons, List.length_nil] at this
      omega
    obtain ⟨s2, e2, u2, v2⟩ := lp_turns_typed f F l (a ++ [f x].filterMap fun _ => F x) s1 u1 v1 (by simp only [List.length_cons] at hl; omega) fun y hy => hb y (List.mem_cons_of_mem _ hy)
    refine ⟨s2, ?_, u2, v2⟩
    rw [List.map_cons, step, e1]
    show turns tg t (gathL e) vs g (l.map f) _ s1 = _
    rw [e2, List.append_assoc]
    congr 3
    cases q : F x <;> simp [q]
/-- [e for tg in it if t] -/
theorem comp_w {α : Type} {tg : Tg} {t : Tx} {e : Ex} {vs : List Nat} {it : Ix} {Q : D → S → Prop} (f : α → D) (F : α → Option D) (xs : List α) (hl : xs.length ≤ lim)
    (w : (it g s).Wp (fun l s1 => l = xs.map f ∧ (vs.any fun v => isOwn (s1.sg.getD v .no)) = false ∧ (∀ x ∈ xs, TurnOk tg t e vs g s1.sg s1.h (f x) (F x)) ∧ Q (.lst (xs.filterMap F)) s1) E) : (comp it tg t e vs g s).Wp Q E := by
  rw [ResWp_eq] at w ⊢
  unfold comp compG
  rw [wp_bind]
  cases q : it g s with
  | bad => rw [q] at w; exact w
  | exc x s1 => rw [q] at w; exact w
  | ok l s1 =>
    rw [q] at w
    obtain ⟨rfl, ho, hF, hQ⟩ := w
    obtain ⟨s', e1, e2, e3⟩ := lp_turns_typed (σ := s1.sg) (h := s1.h) f F xs [] s1 rfl rfl (by simpa using hl) hF
    show Res.wp (if (vs.any fun v => isOwn (s1.sg.getD v .no)) = true then _ else _) Q E
    rw [ho, if_neg (by decide), e1]
    show Q (.lst ([] ++ xs.filterMap F)) { s' with sg := back s1.sg s'.sg vs }
    rw [lp_back_same e2, e3]
    exact hQ
end
/-- a turn's proof, by its wish -/
theorem turn_some {tg : Tg} {t : Tx} {e : Ex} {vs : List Nat} {g : G} {σ : List Sl} {h : List Ob} {d r : D} (w : TgW tg d ⟨unset σ vs, h⟩ fun s2 => (t g s2).Wp (fun b s3 => b = true ∧ (e g s3).Wp (fun x s4 => x = r ∧ unset s4.sg vs = unset σ vs ∧ s4.h = h) fun _ _ => False) fun _ _ => False) : TurnOk tg t e vs g σ h d (some r) := by
  refine ⟨?_⟩
  rw [TgW_eq] at w ⊢
  unfold tgW at w ⊢
  cases q : tg d ⟨unset σ vs, h⟩ with
  | none => rw [q] at w; exact w
  | some s2 =>
    rw [q] at w
    have w : (t g s2).Wp _ _ := w
    show (t g s2).Wp _ _
    rw [ResWp_eq] at w ⊢
    cases q2 : t g s2 with
    | bad => rw [q2] at w; exact w
    | exc x s => rw [q2] at w; exact w
    | ok b s3 =>
      rw [q2] at w
      obtain ⟨rfl, w⟩ := w
      simp only [Res.wp, if_true]
      rw [ResWp_eq] at w ⊢
      cases q3 : e g s3 with
      | bad => rw [q3] at w; exact w
      | exc x s => rw [q3] at w; exact w
      | ok x s4 => rw [q3] at w; exact ⟨congrArg some w.1.symm, w.2⟩
/-- a turn with a test -/
theorem turn_if {tg : Tg} {t : Tx} {e : Ex} {vs : List Nat} {g : G} {σ : List Sl} {h : List Ob} {d r : D} {p : Bool} (w : TgW tg d ⟨unset σ vs, h⟩ fun s2 => (t g s2).Wp (fun b s3 => b = p ∧ (p = true → (e g s3).Wp (fun x s4 => x = r ∧ unset s4.sg vs = unset σ vs ∧ s4.h = h) fun _ _ => False) ∧ (p = false → unset s3.sg vs = unset σ vs ∧ s3.h = h)) fun _ _ => False) : TurnOk tg t e vs g σ h d (if p = true then some r else none) := by
  cases p with
  | true =>
    refine turn_some ?_
    rw [TgW_eq] at w ⊢
    unfold tgW at w ⊢
    cases q : tg d ⟨unset σ vs, h⟩ with
    | none => rw [q] at w; exact w
    | some s2 =>
      rw [q] at w
      have w : (t g s2).Wp _ _ := w
      show (t g s2).Wp _ _
      rw [ResWp_eq] at w ⊢
      cases q2 : t g s2 with
      | bad => rw [q2] at w; exact w
      | exc x s => rw [q2] at w; exact w
      | ok b s3 =>
        rw [q2] at w
        exact ⟨w.1, w.2.1 rfl⟩
  | false =>
    refine ⟨?_⟩
    rw [TgW_eq] at w ⊢
    unfold tgW at w ⊢
    cases q : tg d ⟨unset σ vs, h⟩ with
    | none => rw [q] at w; exact w
    | some s2 =>
      rw [q] at w
      have w : (t g s2).Wp _ _ := w
      show (t g s2).Wp _ _
      rw [ResWp_eq] at w ⊢
      cases q2 : t g s2 with
      | bad => rw [q2] at w; exact w
      | exc x s => rw [q2] at w; exact w
      | ok b s3 =>
        rw [q2] at w
        obtain ⟨rfl, _, w⟩ := w
        simp only [Res.wp]
        exact ⟨rfl, w rfl⟩
section
variable {g : G} {s : S} {E : Exc → S → Prop}
/-- [e for tg in it] -/
theorem comp_m {α : Type} {tg : Tg} {e : Ex} {vs : List Nat} {it : Ix} {Q : D → S → Prop} (f : α → D) (F : α → D) (xs : List α) (hl : xs.length ≤ lim)
    (w : (it g s).Wp (fun l s1 => l = xs.map f ∧ (vs.any fun v => isOwn (s1.sg.getD v .no)) = false ∧ (∀ x ∈ xs, TgW tg (f x) ⟨unset s1.sg vs, s1.h⟩ fun s2 => (e g s2).Wp (fun y s4 => y = F x ∧ unset s4.sg vs = unset s1.sg vs ∧ s4.h = s1.h) fun _ _ => False) ∧ Q (.lst (xs.map F)) s1) E) : (comp it tg tYes e vs g s).Wp Q E := by
  refine comp_w f (fun x => some (F x)) xs hl ?_
  rw [ResWp_eq] at w ⊢
  cases q : it g s with
  | bad => rw [q] at w; exact w
  | exc x s1 => rw [q] at w; exact w
  | ok l s1 =>
    rw [q] at w
    obtain ⟨h1, h2, h3, h4⟩ := w
    refine ⟨h1, h2, fun x hx => turn_some ?_, ?_⟩
    · have := h3 x hx
      rw [TgW_eq] at this ⊢
      unfold tgW at this ⊢
      cases q : tg (f x) ⟨unset s1.sg vs, s1.h⟩ with
      | none => rw [q] at this; exact this
      | some s2 =>
        rw [q] at this
        show (tYes g s2).Wp _ _
        rw [ResWp_eq]
        exact ⟨rfl, this⟩
    · rw [List.filterMap_eq_map']
      exact h4
/-- [e for tg in it if t] -/
theorem comp_f {α : Type} {tg : Tg} {t : Tx} {e : Ex} {vs : List Nat} {it : Ix} {Q : D → S → Prop} (f : α → D) (p : α → Bool) (F : α → D) (xs : List α) (hl : xs.length ≤ lim)
    (w : (it g s).Wp (fun l s1 => l = xs.map f ∧ (vs.any fun v => isOwn (s1.sg.getD v .no)) = false ∧ (∀ x ∈ xs, TgW tg (f x) ⟨unset s1.sg vs, s1.h⟩ fun s2 => (t g s2).Wp (fun b s3 => b = p x ∧ (p x = true → (e g s3).Wp (fun y s4 => y = F x ∧ unset s4.sg vs = unset s1.sg vs ∧ s4.h = s1.h) fun _ _ => False) ∧ (p x = false → unset s3.sg vs = unset s1.sg vs ∧ s3.h = s1.h)) fun _ _ => False) ∧ Q (.lst ((xs.filter p).map F)) s1) E) : (comp it tg t e vs g s).Wp Q E := by
  refine comp_w f (fun x => if p x = true then some (F x) else none) xs hl ?_
  rw [ResWp_eq] at w ⊢
  cases q : it g s with
  | bad => rw [q] at w; exact w
  | exc x s1 => rw [q] at w; exact w
  | ok l s1 =>
    rw [q] at w
    obtain ⟨h1, h2, h3, h4⟩ := w
    refine ⟨h1, h2, fun x hx => turn_if (h3 x hx), ?_⟩
    have : (xs.filterMap fun x => if p x = true then some (F x) else none) = (xs.filter p).map F := by
      clear h1 h3 h4 hl
      induction xs with
      | nil => rfl
      | cons x xs ih =>
        cases hp : p x <;> simp [hp, ih]
    rw [this]
    exact h4
end
end Cy

set_option maxRecDepth 1000000
set_option linter.all false
/-! Cy: what the program asks of forms, in plain Lean. -/
namespace Cy
mutual
/-- no object that is shared, texts of a length that is let -/
def gd : D → Bool
  | .non => true
  | .bl _ => true
  | .int _ => true
  | .str s => decide (s.length ≤ lim)
  | .tup l => gdL l
  | .lst l => gdL l
  | _ => false
def gdL : List D → Bool
  | [] => true
  | x :: r => gd x && gdL r
end
theorem gdL_mem : ∀ {l : List D}, gdL l = true → ∀ x ∈ l, gd x = true
  | [], _, _, h => by cases h
  | y :: l, e, x, h => by
    rw [gdL, Bool.and_eq_true] at e
    cases h with
    | head => exact e.1
    | tail _ h => exact gdL_mem e.2 x h
def isIntD : D → Bool
  | .int _ => true
  | _ => false
def isNumD : D → Bool
  | .int i => decide (0 ≤ i)
  | _ => false
def letters : Nm := [97, 98, 99, 100, 101, 102, 103, 104, 105, 106, 107, 108, 109, 110, 111, 112, 113, 114, 115, 116, 117, 118, 119, 120, 121, 122]
def isNm (s : Nm) : Bool := decide (1 ≤ s.length) && decide (s.length ≤ 8) && s.all fun c => letters.contains c
def isNameD : D → Bool
  | .str s => isNm s
  | _ => false
def isPairD : D → Bool
  | .tup l => l.length == 2
  | _ => false
def isSignD : D → Bool
  | .tup [a, .int p] => isNameD a && (decide (0 ≤ p) && decide (p ≤ 3))
  | _ => false
theorem bls_all {α : Type} (f : α → Bool) : ∀ l : List α, bls? (l.map fun x => D.bl (f x)) = some (l.map f)
  | [] => rfl
  | x :: l => by rw [List.map_cons, bls?, bls_all f l]; rfl
def tyD (t : Tn) : D → Bool
  | .bl _ => (match t with | .int => true | .bool => true | _ => false)
  | .int _ => (match t with | .int => true | _ => false)
  | .str _ => (match t with | .str => true | _ => false)
  | .tup _ => (match t with | .tup => true | _ => false)
  | .lst _ => (match t with | .lst => true | _ => false)
  | _ => false
theorem q_isTy {t : Tn} {h : List Ob} {d : D} (hd : gd d = true) {P : D → Prop} : OptW (isTy t h d) P = P (.bl (tyD t d)) := by
  refine optW_of ?_ P
  cases d <;> first | rfl | cases hd
theorem q_len_str {h : List Ob} {s : Nm} (hs : gd (.str s) = true) {P : D → Prop} : OptW (dLen h (.str s)) P = P (.int s.length) := by
  refine optW_of ?_ P
  show (if s.length ≤ lim then some (D.int s.length) else none) = _
  rw [if_pos (by simpa [gd] using hs)]
theorem q_walk_str {s : Nm} {P : List D → Prop} : OptW (walk? (.str s)) P = P (s.map fun c => .str [c]) := optW_of rfl P
theorem q_in_chr {h : List Ob} {c : Nat} {s : Nm} {P : D → Prop} : OptW (dIn h (.str [c]) (.str s)) P = P (.bl (s.contains c)) := optW_of rfl P
theorem q_all {α : Type} {f : α → Bool} {l : List α} {P : D → Prop} : OptW (dAll (.lst (l.map fun x => .bl (f x)))) P = P (.bl (l.all f)) := by
  refine optW_of ?_ P
  show (bls? (l.map fun x => D.bl (f x))).map _ = _
  rw [bls_all]
  simp [List.all_map]
theorem q_any {α : Type} {f : α → Bool} {l : List α} {P : D → Prop} : OptW (dAny (.lst (l.map fun x => .bl (f x)))) P = P (.bl (l.any f)) := by
  refine optW_of ?_ P
  show (bls? (l.map fun x => D.bl (f x))).map _ = _
  rw [bls_all]
  simp [List.any_map]
theorem beq_nat_two {n : Nat} : decide ((n : Int) = 2) = (n == 2) := by
  rw [Bool.eq_iff_iff]; simp; omega
theorem q_at0 {x : D} {l : List D} {P : D → Prop} : OptW (atI (x :: l) 0) P = P x := optW_of (by unfold atI ixN; rw [if_pos (by decide), if_pos (by simp only [List.length_cons]; omega)]; rfl) P
theorem q_at1 {x y : D} {l : List D} {P : D → Prop} : OptW (atI (x :: y :: l) 1) P = P y := optW_of (by unfold atI ixN; rw [if_pos (by decide), if_pos (by simp only [List.length_cons]; omega)]; rfl) P
theorem q_at2 {x y z : D} {l : List D} {P : D → Prop} : OptW (atI (x :: y :: z :: l) 2) P = P z := optW_of (by unfold atI ixN; rw [if_pos (by decide), if_pos (by simp only [List.length_cons]; omega)]; rfl) P
theorem abs_ten : Int.natAbs 10 = 10 := rfl
theorem q_addL_lst {l m : List D} {P : D → Prop} : OptW (dAddL (.lst l) (.lst m)) P = (l.length + m.length ≤ lim ∧ P (.lst (l ++ m))) := by
  rw [OptW_eq]
  show optW (if l.length + m.length ≤ lim then some (.lst (l ++ m)) else none) P = _
  by_cases z : l.length + m.length ≤ lim <;> simp [z, optW]
theorem q_mul_lst {l : List D} {k : Int} (h0 : 0 ≤ k) (h1 : k ≤ 1000) (h2 : l.length ≤ 1000) {P : D → Prop} : OptW (dMul (.lst l) (.int k)) P = P (.lst (List.replicate k.toNat l).flatten) := by
  refine optW_of ?_ P
  have h3 : l.length * k.toNat ≤ 1000 * 1000 := Nat.mul_le_mul h2 (by omega)
  have h4 : l.length * k.toNat ≤ lim := by unfold lim; omega
  show (if (decide (-(2 ^ 63) ≤ k) && decide (k < 2 ^ 63) && decide (l.length * k.toNat ≤ lim)) = true then _ else _) = _
  rw [if_pos]
  simp only [Bool.and_eq_true, decide_eq_true_eq]
  exact ⟨⟨by omega, by omega⟩, h4⟩
theorem q_mul_one {x : D} {k : Int} (h0 : 0 ≤ k) (h1 : k ≤ 1000) {P : D → Prop} : OptW (dMul (.lst [x]) (.int k)) P = P (.lst (List.replicate k.toNat x)) := by
  rw [q_mul_lst h0 h1 (by simp)]
  congr 2
  induction k.toNat with
  | zero => rfl
  | succ n ih => rw [List.replicate_succ, List.flatten_cons, ih, List.replicate_succ]; rfl
theorem q_rng1 {j : Int} (h0 : -(2 ^ 40) ≤ j) (h1 : j ≤ 2 ^ 40) {P : List D → Prop} : OptW (fRng1 [.int j]) P = P (upto 0 j.toNat) := by
  refine optW_of ?_ P
  show (if smallI j = true then _ else _) = _
  rw [if_pos]
  simp only [smallI, Bool.and_eq_true, decide_eq_true_eq]
  exact ⟨h0, h1⟩
theorem gcW_11 {d : D} {a b : Ob} {Q : D → List Ob → Prop} : GcW [a].length d [b] Q = Q d [b] := gcW_le1 (Nat.le_refl _)
theorem gcW_all {n : Nat} {d : D} {h : List Ob} {Q : D → List Ob → Prop} (q : ∀ h, Q d h) : GcW n d h Q := by
  rw [GcW_eq]
  unfold gcW
  split
  · exact q _
  · split
    · exact q _
    · exact q _
theorem gcW_ref {n k : Nat} {h : List Ob} {Q : D → List Ob → Prop} (e : n ≤ k) : GcW n (.ref k) h Q = Q (.ref k) h := by
  rw [GcW_eq]
  unfold gcW
  by_cases z : h.length ≤ n
  · rw [if_pos z]
  · rw [if_neg z, if_neg]
    simp [noR]; omega
theorem noR_int {m : Nat} {i : Int} : noR m (.int i) = true := rfl
theorem noR_str {m : Nat} {i : Nm} : noR m (.str i) = true := rfl
theorem noR_bl {m : Nat} {i : Bool} : noR m (.bl i) = true := rfl
theorem noR_non {m : Nat} : noR m .non = true := rfl
theorem noRL_ints {m : Nat} : ∀ ns : List Int, noRL m (ns.map D.int) = true
  | [] => rfl
  | _ :: ns => by rw [List.map_cons, noRL, noRL_ints ns]; rfl
theorem arr_nil {xs : List D} {P : List D → Prop} : OptW (arrange [] xs) P = P [] := optW_of rfl P
theorem arr_inl {i : Nat} {p : List (Sum Nat D)} {xs : List D} {P : List D → Prop} : OptW (arrange (.inl i :: p) xs) P = OptW xs[i]? fun x => OptW (arrange p xs) fun r => P (x :: r) := by
  simp only [OptW_eq]
  unfold arrange
  rw [List.mapM_cons]
  cases h : xs[i]? with
  | none => simp [h, optW]
  | some x =>
    simp only [h, optW]
    cases h2 : List.mapM (m := Option) (fun q => match q with | .inl i => xs[i]? | .inr d => some d) p with
    | none => simp
    | some r => simp
theorem arr_inr {d : D} {p : List (Sum Nat D)} {xs : List D} {P : List D → Prop} : OptW (arrange (.inr d :: p) xs) P = OptW (arrange p xs) fun r => P (d :: r) := by
  simp only [OptW_eq]
  unfold arrange
  rw [List.mapM_cons]
  cases h2 : List.mapM (m := Option) (fun q => match q with | .inl i => xs[i]? | .inr d => some d) p with
  | none => simp [h2, optW]
  | some r => simp [h2, optW]
theorem q_eq_int {i j : Int} {P : D → Prop} : OptW (dEq (.int i) (.int j)) P = P (.bl (decide (i = j))) := by
  refine optW_of ?_ P
  show some (D.bl (i == j)) = _
  congr 1
/-! ### repr -/
def rOk (d : D) : Bool := plain d && ints1920 d && decide (wt d ≤ lim)
mutual
theorem same_refl : ∀ (n : Nat) (d : D), pl n d = true → same d d = true
  | _, .non, _ => rfl
  | _, .bl b, _ => by simp [same]
  | _, .int i, _ => by simp [same]
  | _, .str s, _ => by simp [same]
  | 0, .tup l, h => by simp [pl] at h
  | n + 1, .tup l, h => by
    rw [pl, List.all_eq_true] at h
    rw [same]
    exact sameL_refl n l h
  | 0, .lst l, h => by simp [pl] at h
  | n + 1, .lst l, h => by
    rw [pl, List.all_eq_true] at h
    rw [same]
    exact sameL_refl n l h
  | _, .dic _, h => by simp [pl] at h
  | _, .dit _, h => by simp [pl] at h
  | _, .ref _, h => by simp [pl] at h
  | _, .fro _, h => by simp [pl] at h
  | _, .frt _, h => by simp [pl] at h
  | _, .rep _, h => by simp [pl] at h
theorem sameL_refl (n : Nat) : ∀ l : List D, (∀ x ∈ l, pl n x = true) → sameL l l = true
  | [], _ => rfl
  | x :: l, h => by
    rw [sameL, Bool.and_eq_true]
    exact ⟨same_refl n x (h x List.mem_cons_self), sameL_refl n l fun y hy => h y (List.mem_cons_of_mem _ hy)⟩
end
theorem rOk_same {d : D} (h : rOk d = true) : same d d = true := by
  unfold rOk plain at h
  simp only [Bool.and_eq_true] at h
  exact same_refl 40 d h.1.1
theorem q_repr {d : D} (h : rOk d = true) {P : D → Prop} : OptW (dRepr d) P = P (.rep d) := by
  refine optW_of ?_ P
  unfold dRepr
  rw [if_pos (by exact h)]
theorem q_eq_rep {d : D} (h : rOk d = true) {P : D → Prop} : OptW (dEq (.rep d) (.rep d)) P = P (.bl true) := by
  refine optW_of ?_ P
  show ((if same d d = true then some true else none).map D.bl) = _
  rw [if_pos (rOk_same h)]; rfl
theorem q_ne_rep {d : D} (h : rOk d = true) {P : D → Prop} : OptW (dNe (.rep d) (.rep d)) P = P (.bl false) := by
  refine optW_of ?_ P
  show ((if same d d = true then some true else none).map fun b => D.bl (!b)) = _
  rw [if_pos (rOk_same h)]; rfl
mutual
theorem sameD_eq : ∀ {x y : D}, same x y = true → x = y
  | .non, y, h => by cases y <;> first | rfl | (simp [same] at h)
  | .bl b, y, h => by cases y <;> simp [same] at h; rw [h]
  | .int i, y, h => by cases y <;> simp [same] at h; rw [h]
  | .str s, y, h => by cases y <;> simp [same] at h; rw [h]
  | .tup l, y, h => by
    cases y <;> simp [same] at h
    rw [sameDL_eq h]
  | .lst l, y, h => by
    cases y <;> simp [same] at h
    rw [sameDL_eq h]
  | .dic _, y, h => by cases y <;> simp [same] at h
  | .dit _, y, h => by cases y <;> simp [same] at h
  | .ref _, y, h => by cases y <;> simp [same] at h
  | .fro _, y, h => by cases y <;> simp [same] at h
  | .frt _, y, h => by cases y <;> simp [same] at h
  | .rep _, y, h => by cases y <;> simp [same] at h
theorem sameDL_eq : ∀ {x y : List D}, sameL x y = true → x = y
  | [], y, h => by cases y <;> first | rfl | (simp [sameL] at h)
  | a :: x, y, h => by
    cases y with
    | nil => simp [sameL] at h
    | cons b y =>
      rw [sameL, Bool.and_eq_true] at h
      rw [sameD_eq h.1, sameDL_eq h.2]
end
end Cy

set_option maxRecDepth 1000000
set_option linter.all false
/-! Cy: x.pop(k). -/
namespace Cy
theorem w_newK {g : G} {s : S} {E : Exc → S → Prop} {Q : D → S → Prop} : (newK g s).Wp Q E = Q (.dic []) s := by rw [ResWp_eq]; rfl
theorem w_newT {g : G} {s : S} {E : Exc → S → Prop} {Q : D → S → Prop} : (newT g s).Wp Q E = Q (.dit []) s := by rw [ResWp_eq]; rfl
theorem w_popAt {g : G} {s : S} {E : Exc → S → Prop} {Q : D → S → Prop} (i : Nat) (e : Ex) : (popAtE i e g s).Wp Q E = LstW s i fun _ _ _ => (e g s).Wp (fun k s1 => LstW s1 i fun l put _ => IntW k fun k => smallI k = true ∧ OptW (ixN l.length k) fun j => OptW l[j]? fun d => Q d (put (l.eraseIdx j))) E := by
  rw [ResWp_eq]
  unfold popAtE
  have fin : ∀ (k : D) (s1 : S) (l : List D), Res.wp (match k with
      | .int k => if smallI k then (match ixN l.length k with
        | some j => (match l[j]? with
          | some d => .ok d (putL s1 i (l.eraseIdx j))
          | none => .bad)
        | none => .bad) else .bad
      | _ => .bad) Q E = IntW k fun k => smallI k = true ∧ OptW (ixN l.length k) fun j => OptW l[j]? fun d => Q d (putL s1 i (l.eraseIdx j)) := by
    intro k s1 l
    rw [IntW_eq]
    cases k with
    | int k =>
      show Res.wp (if smallI k = true then _ else _) Q E = (smallI k = true ∧ _)
      by_cases z : smallI k = true
      · rw [if_pos z]
        simp only [z, true_and, OptW_eq]
        cases ixN l.length k with
        | none => rfl
        | some j =>
          simp only [optW_some]
          cases l[j]? <;> rfl
      · rw [if_neg z]
        simp [z, Res.wp]
    | _ => rfl
  refine propext ⟨fun w => ?_, fun ⟨l0, e0, w⟩ => ?_⟩
  · cases q : lstOf s i with
    | none => rw [q] at w; exact w.elim
    | some l =>
      rw [q] at w
      refine ⟨l, q, ?_⟩
      simp only [Option.isSome_some, if_true] at w
      rw [wp_bind] at w
      rw [ResWp_eq]
      cases q2 : e g s with
      | bad => rw [q2] at w; exact w
      | exc x s => rw [q2] at w; exact w
      | ok k s1 =>
        rw [q2] at w
        simp only [wp_ok] at w
        show LstW s1 i _
        cases q3 : lstOf s1 i with
        | none => rw [q3] at w; exact w.elim
        | some l =>
          rw [q3] at w
          exact ⟨l, q3, (fin k s1 l) ▸ w⟩
  · rw [e0]
    simp only [Option.isSome_some, if_true]
    rw [wp_bind]
    rw [ResWp_eq] at w
    cases q2 : e g s with
    | bad => rw [q2] at w; exact w
    | exc x s => rw [q2] at w; exact w
    | ok k s1 =>
      rw [q2] at w
      simp only [wp_ok] at w
      obtain ⟨l, q3, w⟩ := w.out
      simp only [wp_ok]
      rw [q3]
      exact (fin k s1 l).symm ▸ w
end Cy

set_option maxRecDepth 1000000
set_option linter.all false
namespace Cy
def f_is_integer : Fn := ⟨1, 1,
(ret (eAnd (o1 (isTy .int) (.pk 0)) (eNot (o1 (isTy .bool) (.pk 0)))))⟩
def f_is_number : Fn := ⟨1, 1,
(ret (eAnd (callK [105, 115, 95, 105, 110, 116, 101, 103, 101, 114] 1 (aCons (var 0) aNil) aNil [.inl 0]) (o2 (fun _ => dGe) (.pk 0) (.ex (cst (.int 0))))))⟩
def f_is_name : Fn := ⟨1, 2,
(ret (eAnd (o1 (isTy .str) (.pk 0)) (eAnd (eChain dLe dLe (cst (.int 1)) (o1 dLen (.pk 0)) (cst (.int 8))) (o1 (fun _ => dAll) (.ex (comp (iVal (var 0)) (gName 1) tYes (o2 dIn (.pk 1) (.ex (cst (.str [97, 98, 99, 100, 101, 102, 103, 104, 105, 106, 107, 108, 109, 110, 111, 112, 113, 114, 115, 116, 117, 118, 119, 120, 121, 122])))) [1]))))))⟩
def f_is_pair : Fn := ⟨1, 1,
(ret (eAnd (o1 (isTy .tup) (.pk 0)) (o2 (fun _ => dEq) (.ex (o1 dLen (.pk 0))) (.ex (cst (.int 2))))))⟩
def f_is_sign : Fn := ⟨1, 1,
(ret (eAnd (callK [105, 115, 95, 112, 97, 105, 114] 1 (aCons (var 0) aNil) aNil [.inl 0]) (eAnd (callK [105, 115, 95, 110, 97, 109, 101] 1 (aCons (o2 dIx (.pk 0) (.ex (cst (.int 0)))) aNil) aNil [.inl 0]) (eAnd (callK [105, 115, 95, 110, 117, 109, 98, 101, 114] 1 (aCons (o2 dIx (.pk 0) (.ex (cst (.int 1)))) aNil) aNil [.inl 0]) (o2 (fun _ => dLe) (.ex (o2 dIx (.pk 0) (.ex (cst (.int 1))))) (.ex (cst (.int 3))))))))⟩
def f_is_hole : Fn := ⟨1, 1,
(ret (callK [105, 115, 95, 110, 117, 109, 98, 101, 114] 1 (aCons (var 0) aNil) aNil [.inl 0]))⟩
def f_places_by : Fn := ⟨1, 3,
(ret (compD (iVal (var 0)) (gTup [(gName 1), (gName 2)]) tYes (var 1) (var 2) [1, 2]))⟩
def f_rows_of : Fn := ⟨1, 6,
(seq
 (take 1 (lstE (aCons (tupE (aCons (tupE aNil) (aCons (var 0) aNil))) aNil)))
 (seq
 (ifS (tNot (tE (callK [105, 115, 95, 104, 111, 108, 101] 1 (aCons (var 0) aNil) aNil [.inl 0]))) (forS (iArgs fEnumL (aCons (cutE (.pk 0) (some (cst (.int 1))) none) aNil)) (gTup [(gName 2), (gName 3)]) (exprS (extE 1 (comp (iVal (callK [114, 111, 119, 115, 95, 111, 102] 1 (aCons (var 3) aNil) aNil [.inl 0])) (gTup [(gName 4), (gName 5)]) tYes (tupE (aCons (tupE (aCons (var 2) (aStar (var 4) aNil))) (aCons (var 5) aNil))) [4, 5])))) pass)
 (ret (var 1))))⟩
def f_terms_in : Fn := ⟨1, 3,
(ret (comp (iVal (callK [114, 111, 119, 115, 95, 111, 102] 1 (aCons (var 0) aNil) aNil [.inl 0])) (gTup [(gName 1), (gName 2)]) tYes (var 2) [1, 2]))⟩
def f_holes_of : Fn := ⟨1, 2,
(ret (o1 (fun _ => dTup) (.ex (o1 (fun _ => dSset) (.ex (comp (iVal (callK [116, 101, 114, 109, 115, 95, 105, 110] 1 (aCons (var 0) aNil) aNil [.inl 0])) (gName 1) (tE (callK [105, 115, 95, 104, 111, 108, 101] 1 (aCons (var 1) aNil) aNil [.inl 0])) (var 1) [1]))))))⟩
def f_counts_by : Fn := ⟨2, 6,
(seq
 (asg (gName 2) (comp (iVal (callK [116, 101, 114, 109, 115, 95, 105, 110] 1 (aCons (var 1) aNil) aNil [.inl 0])) (gName 3) tYes (eIf (tE (callK [105, 115, 95, 104, 111, 108, 101] 1 (aCons (var 3) aNil) aNil [.inl 0])) (cst (.str [])) (o2 dIx (.pk 3) (.ex (cst (.int 0))))) [3]))
 (ret (tupE (aCons (cntE false (.pk 2) (cst (.str []))) (aStar (comp (iVal (var 0)) (gTup [(gName 4), (gName 5)]) tYes (cntE false (.pk 2) (var 4)) [4, 5]) aNil)))))⟩
def f_unit_at : Fn := ⟨3, 4,
(ret (o1 (fun _ => dTup) (.ex (comp (iArgs fRng1 (aCons (var 0) aNil)) (gName 3) tYes (eIf (tE (o2 (fun _ => dEq) (.pk 3) (.pk 1))) (cst (.int 1)) (eIf (tE (o2 (fun _ => dEq) (.pk 3) (.pk 2))) (o1 (fun _ => dNeg) (.ex (cst (.int 1)))) (cst (.int 0)))) [3]))))⟩
def f_limits_by : Fn := ⟨2, 8,
(seq
 (asg (gName 2) (o2 (fun _ => dAdd) (.ex (o1 dLen (.pk 0))) (.ex (cst (.int 1)))))
 (seq
 (take 3 (lstE (aCons (tupE (aCons (callK [117, 110, 105, 116, 95, 97, 116] 2 (aCons (var 2) (aCons (cst (.int 0)) aNil)) aNil [.inl 0, .inl 1, .inr (.int (-1))]) (aCons (cst (.bl true)) aNil))) aNil)))
 (seq
 (forS (iArgs fEnumL (aCons (var 0) aNil)) (gTup [(gName 4), (gTup [(gName 5), (gName 6)])]) (seq
 (asg (gName 7) (callK [117, 110, 105, 116, 95, 97, 116] 3 (aCons (var 2) (aCons (o2 (fun _ => dAdd) (.pk 4) (.ex (cst (.int 1)))) (aCons (eIf (tE (o2 (fun _ => dEq) (.pk 6) (.ex (cst (.int 0))))) (cst (.int 0)) (o1 (fun _ => dNeg) (.ex (cst (.int 1))))) aNil))) aNil [.inl 0, .inl 1, .inl 2]))
 (exprS (appE 3 (tupE (aCons (var 7) (aCons (eAnd (o2 (fun _ => dEq) (.pk 6) (.ex (cst (.int 1)))) (o2 (fun _ => dNe) (.pk 5) (.ex (o2 dIx (.pk 1) (.ex (cst (.int 0))))))) aNil)))))))
 (ret (o1 (fun _ => dTup) (.pk 3))))))⟩
def f_form_by : Fn := ⟨3, 5,
(ret (o1 (fun _ => dTup) (.ex (comp (iArgs fZip (aCons (callK [99, 111, 117, 110, 116, 115, 95, 98, 121] 2 (aCons (var 0) (aCons (var 1) aNil)) aNil [.inl 0, .inl 1]) (aCons (callK [99, 111, 117, 110, 116, 115, 95, 98, 121] 2 (aCons (var 0) (aCons (var 2) aNil)) aNil [.inl 0, .inl 1]) aNil))) (gTup [(gName 3), (gName 4)]) tYes (o2 (fun _ => dSub) (.pk 3) (.pk 4)) [3, 4]))))⟩
def f_has_more_holes : Fn := ⟨2, 5,
(seq
 (asg (gTup [(gName 2), (gName 3)]) (tupE (aCons (callK [116, 101, 114, 109, 115, 95, 105, 110] 1 (aCons (var 0) aNil) aNil [.inl 0]) (aCons (callK [116, 101, 114, 109, 115, 95, 105, 110] 1 (aCons (var 1) aNil) aNil [.inl 0]) aNil))))
 (ret (o1 (fun _ => dAny) (.ex (comp (iVal (callK [104, 111, 108, 101, 115, 95, 111, 102] 1 (aCons (var 1) aNil) aNil [.inl 0])) (gName 4) tYes (o2 (fun _ => dGt) (.ex (cntE false (.pk 3) (var 4))) (.ex (cntE false (.pk 2) (var 4)))) [4])))))⟩
def f_first_end : Fn := ⟨2, 2,
(seq
 (ifS (tE (o2 (fun _ => dEq) (.pk 0) (.pk 1))) (ret (cst (.str [115, 97, 109, 101]))) pass)
 (seq
 (ifS (tE (callK [105, 115, 95, 104, 111, 108, 101] 1 (aCons (var 0) aNil) aNil [.inl 0])) (ret (cst (.str [104, 111, 108, 101]))) pass)
 (seq
 (ifS (tE (callK [104, 97, 115, 95, 109, 111, 114, 101, 95, 104, 111, 108, 101, 115] 2 (aCons (var 0) (aCons (var 1) aNil)) aNil [.inl 0, .inl 1])) (ret (cst (.str [104, 111, 108, 101, 115]))) pass)
 (ret (eIf (tE (callK [105, 115, 95, 104, 111, 108, 101] 1 (aCons (var 1) aNil) aNil [.inl 0])) (cst (.str [103, 111, 111, 100])) (cst .non))))))⟩
def f_shape_by : Fn := ⟨2, 8,
(seq
 (asg (gTup [(gName 2), (gName 3)]) (var 1))
 (seq
 (take 4 (lstE aNil))
 (seq
 (asg (gName 5) (callK [102, 105, 114, 115, 116, 95, 101, 110, 100] 2 (aCons (var 2) (aCons (var 3) aNil)) aNil [.inl 0, .inl 1]))
 (seq
 (whileS (tE (o1 (fun _ => dIsN) (.pk 5))) (seq
 (exprS (appE 4 (callK [102, 111, 114, 109, 95, 98, 121] 3 (aCons (var 0) (aCons (var 2) (aCons (var 3) aNil))) aNil [.inl 0, .inl 1, .inl 2])))
 (seq
 (ifS (tE (o2 (fun _ => dNe) (.ex (o2 dIx (.pk 2) (.ex (cst (.int 0))))) (.ex (o2 dIx (.pk 3) (.ex (cst (.int 0))))))) (ret (tupE (aCons (o1 (fun _ => dTup) (.pk 4)) (aCons (tupE (aCons (o2 dIx (.pk 2) (.ex (cst (.int 0)))) (aCons (o2 dIx (.pk 3) (.ex (cst (.int 0)))) aNil))) aNil)))) pass)
 (seq
 (asg (gTup [(gName 2), (gName 3)]) (o2 dIx (.ex (comp (iArgs fZip (aCons (cutE (.pk 2) (some (cst (.int 1))) none) (aCons (cutE (.pk 3) (some (cst (.int 1))) none) aNil))) (gTup [(gName 6), (gName 7)]) (tE (o2 (fun _ => dNe) (.pk 6) (.pk 7))) (tupE (aCons (var 6) (aCons (var 7) aNil))) [6, 7])) (.ex (cst (.int 0)))))
 (asg (gName 5) (callK [102, 105, 114, 115, 116, 95, 101, 110, 100] 2 (aCons (var 2) (aCons (var 3) aNil)) aNil [.inl 0, .inl 1]))))))
 (ret (tupE (aCons (o1 (fun _ => dTup) (.pk 4)) (aCons (var 5) aNil))))))))⟩
def f_end_under : Fn := ⟨2, 2,
(seq
 (ifS (tE (o1 (isTy .str) (.pk 1))) (ret (var 1)) pass)
 (ret (eIf (tE (o2 (fun _ => dLt) (.ex (cntE true (.pk 0) (o2 dIx (.pk 1) (.ex (cst (.int 0)))))) (.ex (cntE true (.pk 0) (o2 dIx (.pk 1) (.ex (cst (.int 1)))))))) (cst (.str [103, 111, 111, 100])) (cst (.str [114, 97, 110, 107])))))⟩
def f_chain_by : Fn := ⟨3, 5,
(seq
 (asg (gTup [(gName 3), (gName 4)]) (callK [115, 104, 97, 112, 101, 95, 98, 121] 2 (aCons (var 0) (aCons (var 2) aNil)) aNil [.inl 0, .inl 1]))
 (ret (tupE (aCons (var 3) (aCons (callK [101, 110, 100, 95, 117, 110, 100, 101, 114] 2 (aCons (var 1) (aCons (var 4) aNil)) aNil [.inl 0, .inl 1]) aNil)))))⟩
def f_is_rank_of : Fn := ⟨2, 4,
(seq
 (ifS (tOr (tNot (tE (o1 (isTy .tup) (.pk 1)))) (tNot (tE (o1 (fun _ => dAll) (.ex (comp (iVal (var 1)) (gName 2) tYes (o1 (isTy .str) (.pk 2)) [2])))))) (ret (cst (.bl false))) pass)
 (ret (o2 (fun _ => dEq) (.ex (o1 dSortH (.pk 1))) (.ex (comp (iVal (var 0)) (gTup [(gName 2), (gName 3)]) tYes (var 2) [2, 3])))))⟩
def f_book_fault : Fn := ⟨1, 5,
(seq
 (ifS (tNot (tE (o1 (isTy .tup) (.pk 0)))) (ret (tupE (aCons (cst (.str [115, 104, 97, 112, 101])) (aCons (o1 (fun _ => dNeg) (.ex (cst (.int 1)))) aNil)))) pass)
 (seq
 (forS (iArgs fEnumL (aCons (var 0) aNil)) (gTup [(gName 1), (gName 2)]) (seq
 (ifS (tNot (tE (callK [105, 115, 95, 115, 105, 103, 110] 1 (aCons (var 2) aNil) aNil [.inl 0]))) (ret (tupE (aCons (cst (.str [115, 105, 103, 110])) (aCons (var 1) aNil)))) pass)
 (ifS (tAnd (tE (o2 (fun _ => dGt) (.pk 1) (.ex (cst (.int 0))))) (tNot (tE (o2 (fun _ => dLt) (.ex (o2 dIx (.ex (o2 dIx (.pk 0) (.ex (o2 (fun _ => dSub) (.pk 1) (.ex (cst (.int 1))))))) (.ex (cst (.int 0))))) (.ex (o2 dIx (.pk 2) (.ex (cst (.int 0))))))))) (ret (tupE (aCons (cst (.str [111, 114, 100, 101, 114])) (aCons (var 1) aNil)))) pass)))
 (seq
 (ifS (tNot (tE (o1 (fun _ => dAny) (.ex (comp (iVal (var 0)) (gTup [(gName 3), (gName 4)]) tYes (o2 (fun _ => dEq) (.pk 4) (.ex (cst (.int 0)))) [3, 4]))))) (ret (tupE (aCons (cst (.str [99, 108, 111, 115, 101, 100])) (aCons (o1 (fun _ => dNeg) (.ex (cst (.int 1)))) aNil)))) pass)
 (ret (eIf (tE (o1 (fun _ => dAny) (.ex (comp (iVal (var 0)) (gTup [(gName 3), (gName 4)]) tYes (o2 (fun _ => dGt) (.pk 4) (.ex (cst (.int 1)))) [3, 4])))) (cst .non) (tupE (aCons (cst (.str [119, 105, 100, 101])) (aCons (o1 (fun _ => dNeg) (.ex (cst (.int 1)))) aNil))))))))⟩
def f_is_book : Fn := ⟨1, 1,
(ret (o1 (fun _ => dIsN) (.ex (callK [98, 111, 111, 107, 95, 102, 97, 117, 108, 116] 1 (aCons (var 0) aNil) aNil [.inl 0]))))⟩
def f_want : Fn := ⟨3, 3,
(ifS (tNot (tE (var 0))) never pass)⟩
def f_want_book : Fn := ⟨1, 1,
(exprS (callK [119, 97, 110, 116] 2 (aCons (callK [105, 115, 95, 98, 111, 111, 107] 1 (aCons (var 0) aNil) aNil [.inl 0]) (aCons (cst (.str [98, 111, 111, 107])) aNil)) aNil [.inl 0, .inl 1, .inr (.int (-1))]))⟩
def f_is_headed : Fn := ⟨2, 2,
(seq
 (ifS (tOr (tNot (tE (o1 (isTy .tup) (.pk 1)))) (tOr (tE (o2 (fun _ => dEq) (.ex (o1 dLen (.pk 1))) (.ex (cst (.int 0))))) (tNot (tE (o1 (isTy .str) (.ex (o2 dIx (.pk 1) (.ex (cst (.int 0)))))))))) (ret (cst (.bl false))) pass)
 (ret (eAnd (o2 dIn (.ex (o2 dIx (.pk 1) (.ex (cst (.int 0))))) (.pk 0)) (o2 (fun _ => dEq) (.ex (o1 dLen (.pk 1))) (.ex (o2 (fun _ => dAdd) (.ex (o2 dIx (.pk 0) (.ex (o2 dIx (.pk 1) (.ex (cst (.int 0))))))) (.ex (cst (.int 1)))))))))⟩
def f_term_fault : Fn := ⟨2, 5,
(seq
 (ifS (tE (callK [105, 115, 95, 104, 111, 108, 101] 1 (aCons (var 1) aNil) aNil [.inl 0])) (ret (cst .non)) pass)
 (seq
 (ifS (tNot (tE (callK [105, 115, 95, 104, 101, 97, 100, 101, 100] 2 (aCons (var 0) (aCons (var 1) aNil)) aNil [.inl 0, .inl 1]))) (ret (tupE aNil)) pass)
 (seq
 (forS (iArgs fEnumL (aCons (cutE (.pk 1) (some (cst (.int 1))) none) aNil)) (gTup [(gName 2), (gName 3)]) (seq
 (asg (gName 4) (callK [116, 101, 114, 109, 95, 102, 97, 117, 108, 116] 2 (aCons (var 0) (aCons (var 3) aNil)) aNil [.inl 0, .inl 1]))
 (ifS (tE (o1 (fun _ => dNotN) (.pk 4))) (ret (tupE (aCons (var 2) (aStar (var 4) aNil)))) pass)))
 (ret (cst .non)))))⟩
def f_is_term_by : Fn := ⟨2, 2,
(ret (o1 (fun _ => dIsN) (.ex (callK [116, 101, 114, 109, 95, 102, 97, 117, 108, 116] 2 (aCons (var 0) (aCons (var 1) aNil)) aNil [.inl 0, .inl 1]))))⟩
def f_is_rule_by : Fn := ⟨2, 2,
(ret (eAnd (callK [105, 115, 95, 112, 97, 105, 114] 1 (aCons (var 1) aNil) aNil [.inl 0]) (eAnd (callK [105, 115, 95, 116, 101, 114, 109, 95, 98, 121] 2 (aCons (var 0) (aCons (o2 dIx (.pk 1) (.ex (cst (.int 0)))) aNil)) aNil [.inl 0, .inl 1]) (callK [105, 115, 95, 116, 101, 114, 109, 95, 98, 121] 2 (aCons (var 0) (aCons (o2 dIx (.pk 1) (.ex (cst (.int 1)))) aNil)) aNil [.inl 0, .inl 1]))))⟩
def f_is_rule : Fn := ⟨2, 2,
(seq
 (exprS (callK [119, 97, 110, 116, 95, 98, 111, 111, 107] 1 (aCons (var 0) aNil) aNil [.inl 0]))
 (ret (callK [105, 115, 95, 114, 117, 108, 101, 95, 98, 121] 2 (aCons (callK [112, 108, 97, 99, 101, 115, 95, 98, 121] 1 (aCons (var 0) aNil) aNil [.inl 0]) (aCons (var 1) aNil)) aNil [.inl 0, .inl 1])))⟩
def f_want_rule : Fn := ⟨2, 2,
(exprS (callK [119, 97, 110, 116] 2 (aCons (callK [105, 115, 95, 114, 117, 108, 101] 2 (aCons (var 0) (aCons (var 1) aNil)) aNil [.inl 0, .inl 1]) (aCons (cst (.str [114, 117, 108, 101])) aNil)) aNil [.inl 0, .inl 1, .inr (.int (-1))]))⟩
def f_want_rank : Fn := ⟨2, 2,
(exprS (callK [119, 97, 110, 116] 2 (aCons (callK [105, 115, 95, 114, 97, 110, 107, 95, 111, 102] 2 (aCons (var 0) (aCons (var 1) aNil)) aNil [.inl 0, .inl 1]) (aCons (cst (.str [114, 97, 110, 107])) aNil)) aNil [.inl 0, .inl 1, .inr (.int (-1))]))⟩
def f_limits_of : Fn := ⟨2, 2,
(seq
 (exprS (callK [119, 97, 110, 116, 95, 98, 111, 111, 107] 1 (aCons (var 0) aNil) aNil [.inl 0]))
 (seq
 (exprS (callK [119, 97, 110, 116, 95, 114, 97, 110, 107] 2 (aCons (var 0) (aCons (var 1) aNil)) aNil [.inl 0, .inl 1]))
 (ret (callK [108, 105, 109, 105, 116, 115, 95, 98, 121] 2 (aCons (var 0) (aCons (var 1) aNil)) aNil [.inl 0, .inl 1]))))⟩
def f_chain_of : Fn := ⟨3, 3,
(seq
 (exprS (callK [119, 97, 110, 116, 95, 98, 111, 111, 107] 1 (aCons (var 0) aNil) aNil [.inl 0]))
 (seq
 (exprS (callK [119, 97, 110, 116, 95, 114, 97, 110, 107] 2 (aCons (var 0) (aCons (var 1) aNil)) aNil [.inl 0, .inl 1]))
 (seq
 (exprS (callK [119, 97, 110, 116, 95, 114, 117, 108, 101] 2 (aCons (var 0) (aCons (var 2) aNil)) aNil [.inl 0, .inl 1]))
 (ret (callK [99, 104, 97, 105, 110, 95, 98, 121] 3 (aCons (var 0) (aCons (var 1) (aCons (var 2) aNil))) aNil [.inl 0, .inl 1, .inl 2])))))⟩
def f__law_feed : Fn := ⟨1, 1,
(ret (refE (dicE [((cst (.str [99, 101, 108, 108, 115])), (o1 (fun _ => dLst) (.ex (cutE (.pk 0) none (some (cst (.int 63))))))), ((cst (.str [97, 116])), (cst (.int 0))), ((cst (.str [108, 101, 102, 116])), (cst (.int 0))), ((cst (.str [99, 111, 117, 110, 116])), (cst (.int 0)))])))⟩
def f__law_draw : Fn := ⟨2, 6,
(seq
 (putS 0 (cst (.str [99, 111, 117, 110, 116])) (o2 (fun _ => dAdd) (.ex (o2 dIx (.pk 0) (.ex (cst (.str [99, 111, 117, 110, 116]))))) (.ex (cst (.int 1)))))
 (seq
 (ifS (tE (o2 (fun _ => dGt) (.ex (o2 dIx (.pk 0) (.ex (cst (.str [108, 101, 102, 116]))))) (.ex (cst (.int 0))))) (seq
 (asg (gName 5) (o2 (fun _ => dMod) (.ex (o1 (fun _ => dInt) (.ex (o2 dIx (.pk 0) (.ex (cst (.str [108, 101, 102, 116]))))))) (.pk 1)))
 (seq
 (putS 0 (cst (.str [108, 101, 102, 116])) (o2 (fun _ => dFdiv) (.ex (o2 dIx (.pk 0) (.ex (cst (.str [108, 101, 102, 116]))))) (.pk 1)))
 (ret (var 5)))) pass)
 (seq
 (asg (gName 2) (o2 dIx (.pk 0) (.ex (cst (.str [97, 116])))))
 (seq
 (putS 0 (cst (.str [97, 116])) (o2 (fun _ => dAdd) (.pk 2) (.ex (cst (.int 1)))))
 (seq
 (asg (gName 3) (eIf (tE (o2 (fun _ => dNe) (.ex (o2 dIx (.pk 0) (.ex (cst (.str [99, 101, 108, 108, 115]))))) (.ex (lstE aNil)))) (o2 dIx (.ex (o2 dIx (.pk 0) (.ex (cst (.str [99, 101, 108, 108, 115]))))) (.ex (o2 (fun _ => dMod) (.ex (o1 (fun _ => dInt) (.pk 2))) (.ex (o1 dLen (.ex (o2 dIx (.pk 0) (.ex (cst (.str [99, 101, 108, 108, 115])))))))))) (cst (.int 7247))))
 (seq
 (ifS (tAnd (tE (o2 (fun _ => dGe) (.pk 3) (.ex (o2 (fun _ => dPow) (.ex (cst (.int 10))) (.ex (cst (.int 18))))))) (tE (o2 (fun _ => dLt) (.pk 2) (.ex (o1 dLen (.ex (o2 dIx (.pk 0) (.ex (cst (.str [99, 101, 108, 108, 115])))))))))) (seq
 (putS 0 (cst (.str [108, 101, 102, 116])) (o2 (fun _ => dFdiv) (.pk 3) (.pk 1)))
 (ret (o2 (fun _ => dMod) (.ex (o1 (fun _ => dInt) (.pk 3))) (.pk 1)))) pass)
 (seq
 (asg (gName 4) (o2 (fun _ => dMod) (.ex (o1 (fun _ => dInt) (.ex (o2 (fun _ => dAdd) (.ex (o2 (fun _ => dAdd) (.ex (o2 (fun _ => dMod) (.ex (o1 (fun _ => dInt) (.pk 3))) (.ex (cst (.int 1000000193))))) (.ex (o2 (fun _ => dMul) (.ex (cst (.int 93732))) (.ex (o2 dIx (.pk 0) (.ex (cst (.str [99, 111, 117, 110, 116]))))))))) (.ex (cst (.int 60))))))) (.ex (cst (.int 2146905751)))))
 (seq
 (asg (gName 4) (o2 (fun _ => dMod) (.ex (o1 (fun _ => dInt) (.ex (o2 (fun _ => dAdd) (.ex (o2 (fun _ => dAdd) (.ex (o2 (fun _ => dMul) (.pk 4) (.pk 4))) (.ex (o2 (fun _ => dMul) (.ex (cst (.int 7170042))) (.ex (o2 dIx (.pk 0) (.ex (cst (.str [99, 111, 117, 110, 116]))))))))) (.ex (cst (.int 738))))))) (.ex (cst (.int 2146905619)))))
 (ret (o2 (fun _ => dMod) (.ex (o1 (fun _ => dInt) (.ex (o2 (fun _ => dFdiv) (.ex (o2 (fun _ => dMod) (.ex (o1 (fun _ => dInt) (.ex (o2 (fun _ => dAdd) (.ex (o2 (fun _ => dMul) (.pk 4) (.pk 4))) (.ex (o2 (fun _ => dMul) (.ex (cst (.int 499))) (.pk 4))))))) (.ex (cst (.int 2146905487))))) (.ex (cst (.int 16))))))) (.pk 1)))))))))))⟩
def f__law_chains : Fn := ⟨0, 9,
(seq
 (asg (gTup [(gName 0), (gName 1), (gName 2)]) (tupE (aCons (tupE (aCons (cst (.int 0)) (aCons (cst (.int 0)) (aCons (cst (.int 0)) (aCons (cst (.int 0)) aNil))))) (aCons (tupE (aCons (cst (.int 0)) (aCons (cst (.int 0)) (aCons (o1 (fun _ => dNeg) (.ex (cst (.int 1)))) (aCons (cst (.int 0)) aNil))))) (aCons (tupE (aCons (cst (.str [101])) aNil)) aNil)))))
 (seq
 (asg (gName 3) (tupE (aCons (tupE (aCons (cst (.str [109, 117, 108])) (aCons (tupE (aCons (cst (.str [109, 117, 108])) (aCons (cst (.int 0)) (aCons (cst (.int 1)) aNil)))) (aCons (cst (.int 2)) aNil)))) (aCons (tupE (aCons (cst (.str [109, 117, 108])) (aCons (cst (.int 0)) (aCons (tupE (aCons (cst (.str [109, 117, 108])) (aCons (cst (.int 1)) (aCons (cst (.int 2)) aNil)))) aNil)))) aNil))))
 (seq
 (take 4 (lstE (aCons (tupE (aCons (tupE (aCons (tupE (aCons (cst (.str [105, 110, 118])) (aCons (tupE (aCons (cst (.str [109, 117, 108])) (aCons (cst (.int 0)) (aCons (cst (.int 1)) aNil)))) aNil))) (aCons (tupE (aCons (cst (.str [109, 117, 108])) (aCons (tupE (aCons (cst (.str [105, 110, 118])) (aCons (cst (.int 1)) aNil))) (aCons (tupE (aCons (cst (.str [105, 110, 118])) (aCons (cst (.int 0)) aNil))) aNil)))) aNil))) (aCons (tupE (aCons (tupE (aCons (var 1) aNil)) (aCons (cst (.str [103, 111, 111, 100])) aNil))) (aCons (tupE (aCons (tupE (aCons (var 1) aNil)) (aCons (cst (.str [114, 97, 110, 107])) aNil))) aNil)))) aNil)))
 (seq
 (exprS (appE 4 (tupE (aCons (tupE (aCons (tupE (aCons (cst (.str [109, 117, 108])) (aCons (var 2) (aCons (cst (.int 0)) aNil)))) (aCons (cst (.int 0)) aNil))) (aCons (tupE (aCons (tupE aNil) (aCons (cst (.str [103, 111, 111, 100])) aNil))) (aCons (tupE (aCons (tupE aNil) (aCons (cst (.str [103, 111, 111, 100])) aNil))) aNil))))))
 (seq
 (exprS (appE 4 (tupE (aCons (tupE (aCons (cst (.int 0)) (aCons (var 2) aNil))) (aCons (tupE (aCons (tupE aNil) (aCons (cst (.str [104, 111, 108, 101])) aNil))) (aCons (tupE (aCons (tupE aNil) (aCons (cst (.str [104, 111, 108, 101])) aNil))) aNil))))))
 (seq
 (exprS (appE 4 (tupE (aCons (tupE (aCons (cst (.int 0)) (aCons (cst (.int 0)) aNil))) (aCons (tupE (aCons (tupE aNil) (aCons (cst (.str [115, 97, 109, 101])) aNil))) (aCons (tupE (aCons (tupE aNil) (aCons (cst (.str [115, 97, 109, 101])) aNil))) aNil))))))
 (seq
 (exprS (appE 4 (tupE (aCons (tupE (aCons (tupE (aCons (cst (.str [109, 117, 108])) (aCons (cst (.int 0)) (aCons (var 2) aNil)))) (aCons (tupE (aCons (cst (.str [109, 117, 108])) (aCons (cst (.int 0)) (aCons (var 2) aNil)))) aNil))) (aCons (tupE (aCons (tupE aNil) (aCons (cst (.str [115, 97, 109, 101])) aNil))) (aCons (tupE (aCons (tupE aNil) (aCons (cst (.str [115, 97, 109, 101])) aNil))) aNil))))))
 (seq
 (exprS (appE 4 (tupE (aCons (tupE (aCons (var 2) (aCons (cst (.int 0)) aNil))) (aCons (tupE (aCons (tupE aNil) (aCons (cst (.str [104, 111, 108, 101, 115])) aNil))) (aCons (tupE (aCons (tupE aNil) (aCons (cst (.str [104, 111, 108, 101, 115])) aNil))) aNil))))))
 (seq
 (exprS (appE 4 (tupE (aCons (tupE (aCons (tupE (aCons (cst (.str [105, 110, 118])) (aCons (tupE (aCons (cst (.str [105, 110, 118])) (aCons (cst (.int 0)) aNil))) aNil))) (aCons (tupE (aCons (cst (.str [109, 117, 108])) (aCons (cst (.int 0)) (aCons (cst (.int 0)) aNil)))) aNil))) (aCons (tupE (aCons (tupE aNil) (aCons (cst (.str [104, 111, 108, 101, 115])) aNil))) (aCons (tupE (aCons (tupE aNil) (aCons (cst (.str [104, 111, 108, 101, 115])) aNil))) aNil))))))
 (seq
 (exprS (appE 4 (tupE (aCons (var 3) (aCons (tupE (aCons (tupE (aCons (var 0) aNil)) (aCons (cst (.str [103, 111, 111, 100])) aNil))) (aCons (tupE (aCons (tupE (aCons (var 0) aNil)) (aCons (cst (.str [103, 111, 111, 100])) aNil))) aNil))))))
 (seq
 (exprS (appE 4 (tupE (aCons (o1 (fun _ => dRevA false) (.pk 3)) (aCons (tupE (aCons (tupE (aCons (var 0) aNil)) (aCons (cst (.str [104, 111, 108, 101])) aNil))) (aCons (tupE (aCons (tupE (aCons (var 0) aNil)) (aCons (cst (.str [104, 111, 108, 101])) aNil))) aNil))))))
 (seq
 (exprS (appE 4 (tupE (aCons (tupE (aCons (tupE (aCons (cst (.str [109, 117, 108])) (aCons (cst (.int 0)) (aCons (cst (.int 1)) aNil)))) (aCons (tupE (aCons (cst (.str [109, 117, 108])) (aCons (cst (.int 1)) (aCons (cst (.int 0)) aNil)))) aNil))) (aCons (tupE (aCons (tupE (aCons (var 0) aNil)) (aCons (cst (.str [104, 111, 108, 101])) aNil))) (aCons (tupE (aCons (tupE (aCons (var 0) aNil)) (aCons (cst (.str [104, 111, 108, 101])) aNil))) aNil))))))
 (seq
 (exprS (appE 4 (tupE (aCons (tupE (aCons (tupE (aCons (cst (.str [109, 117, 108])) (aCons (tupE (aCons (cst (.str [105, 110, 118])) (aCons (cst (.int 0)) aNil))) (aCons (cst (.int 1)) aNil)))) (aCons (tupE (aCons (cst (.str [109, 117, 108])) (aCons (cst (.int 0)) (aCons (tupE (aCons (cst (.str [105, 110, 118])) (aCons (cst (.int 1)) aNil))) aNil)))) aNil))) (aCons (tupE (aCons (tupE (aCons (var 0) aNil)) (aCons (cst (.str [103, 111, 111, 100])) aNil))) (aCons (tupE (aCons (tupE (aCons (var 0) aNil)) (aCons (cst (.str [103, 111, 111, 100])) aNil))) aNil))))))
 (seq
 (exprS (appE 4 (tupE (aCons (tupE (aCons (tupE (aCons (cst (.str [109, 117, 108])) (aCons (cst (.int 0)) (aCons (cst (.int 0)) aNil)))) (aCons (tupE (aCons (cst (.str [105, 110, 118])) (aCons (cst (.int 0)) aNil))) aNil))) (aCons (tupE (aCons (tupE (aCons (tupE (aCons (cst (.int 1)) (aCons (cst (.int 0)) (aCons (o1 (fun _ => dNeg) (.ex (cst (.int 1)))) (aCons (cst (.int 1)) aNil))))) aNil)) (aCons (cst (.str [114, 97, 110, 107])) aNil))) (aCons (tupE (aCons (tupE (aCons (tupE (aCons (cst (.int 1)) (aCons (cst (.int 0)) (aCons (o1 (fun _ => dNeg) (.ex (cst (.int 1)))) (aCons (cst (.int 1)) aNil))))) aNil)) (aCons (cst (.str [103, 111, 111, 100])) aNil))) aNil))))))
 (seq
 (asg (gName 5) (tupE (aCons (tupE (aCons (cst (.str [109, 117, 108])) (aCons (tupE (aCons (cst (.str [109, 117, 108])) (aCons (var 2) (aCons (cst (.int 0)) aNil)))) (aCons (var 2) aNil)))) (aCons (tupE (aCons (cst (.str [109, 117, 108])) (aCons (tupE (aCons (cst (.str [109, 117, 108])) (aCons (var 2) (aCons (cst (.int 0)) aNil)))) (aCons (tupE (aCons (cst (.str [105, 110, 118])) (aCons (var 2) aNil))) aNil)))) aNil))))
 (seq
 (exprS (appE 4 (tupE (aCons (var 5) (aCons (tupE (aCons (tupE (aCons (var 1) (aCons (var 1) aNil))) (aCons (cst (.str [114, 97, 110, 107])) aNil))) (aCons (tupE (aCons (tupE (aCons (var 1) (aCons (var 1) aNil))) (aCons (cst (.str [103, 111, 111, 100])) aNil))) aNil))))))
 (seq
 (asg (gName 6) (tupE (aCons (tupE (aCons (cst (.str [109, 117, 108])) (aCons (var 2) (aCons (tupE (aCons (cst (.str [105, 110, 118])) (aCons (cst (.int 0)) aNil))) aNil)))) (aCons (tupE (aCons (cst (.str [109, 117, 108])) (aCons (tupE (aCons (cst (.str [105, 110, 118])) (aCons (var 2) aNil))) (aCons (cst (.int 0)) aNil)))) aNil))))
 (seq
 (exprS (appE 4 (tupE (aCons (var 6) (aCons (tupE (aCons (tupE (aCons (var 0) (aCons (var 1) aNil))) (aCons (cst (.str [114, 97, 110, 107])) aNil))) (aCons (tupE (aCons (tupE (aCons (var 0) (aCons (var 1) aNil))) (aCons (cst (.str [103, 111, 111, 100])) aNil))) aNil))))))
 (seq
 (exprS (appE 4 (tupE (aCons (o1 (fun _ => dRevA false) (.pk 6)) (aCons (tupE (aCons (tupE (aCons (var 0) (aCons (tupE (aCons (cst (.int 0)) (aCons (cst (.int 0)) (aCons (cst (.int 1)) (aCons (cst (.int 0)) aNil))))) aNil))) (aCons (cst (.str [103, 111, 111, 100])) aNil))) (aCons (tupE (aCons (tupE (aCons (var 0) (aCons (tupE (aCons (cst (.int 0)) (aCons (cst (.int 0)) (aCons (cst (.int 1)) (aCons (cst (.int 0)) aNil))))) aNil))) (aCons (cst (.str [114, 97, 110, 107])) aNil))) aNil))))))
 (seq
 (asg (gName 7) (tupE (aCons (tupE (aCons (cst (.str [109, 117, 108])) (aCons (cst (.int 0)) (aCons (tupE (aCons (cst (.str [109, 117, 108])) (aCons (cst (.int 1)) (aCons (cst (.int 1)) aNil)))) aNil)))) (aCons (tupE (aCons (cst (.str [109, 117, 108])) (aCons (tupE (aCons (cst (.str [105, 110, 118])) (aCons (cst (.int 1)) aNil))) (aCons (cst (.int 0)) aNil)))) aNil))))
 (seq
 (exprS (appE 4 (tupE (aCons (var 7) (aCons (tupE (aCons (tupE (aCons (tupE (aCons (cst (.int 1)) (aCons (cst (.int 0)) (aCons (o1 (fun _ => dNeg) (.ex (cst (.int 1)))) (aCons (cst (.int 1)) aNil))))) aNil)) (aCons (cst (.str [104, 111, 108, 101])) aNil))) (aCons (tupE (aCons (tupE (aCons (tupE (aCons (cst (.int 1)) (aCons (cst (.int 0)) (aCons (o1 (fun _ => dNeg) (.ex (cst (.int 1)))) (aCons (cst (.int 1)) aNil))))) aNil)) (aCons (cst (.str [104, 111, 108, 101])) aNil))) aNil))))))
 (seq
 (asg (gName 8) (tupE (aCons (tupE (aCons (cst (.str [109, 117, 108])) (aCons (tupE (aCons (cst (.str [105, 110, 118])) (aCons (cst (.int 0)) aNil))) (aCons (tupE (aCons (cst (.str [105, 110, 118])) (aCons (cst (.int 1)) aNil))) aNil)))) (aCons (tupE (aCons (cst (.str [109, 117, 108])) (aCons (tupE (aCons (cst (.str [105, 110, 118])) (aCons (cst (.int 0)) aNil))) (aCons (tupE (aCons (cst (.str [105, 110, 118])) (aCons (cst (.int 0)) aNil))) aNil)))) aNil))))
 (ret (o2 (fun _ => dAdd) (.pk 4) (.ex (lstE (aCons (tupE (aCons (var 8) (aCons (tupE (aCons (tupE aNil) (aCons (cst (.str [104, 111, 108, 101, 115])) aNil))) (aCons (tupE (aCons (tupE aNil) (aCons (cst (.str [104, 111, 108, 101, 115])) aNil))) aNil)))) aNil)))))))))))))))))))))))))))⟩
def f__law_are_limits : Fn := ⟨0, 6,
(seq
 (asg (gTup [(gName 0), (gName 1)]) (tupE (aCons (tupE (aCons (tupE (aCons (cst (.str [101])) (aCons (cst (.int 0)) aNil))) (aCons (tupE (aCons (cst (.str [105, 110, 118])) (aCons (cst (.int 1)) aNil))) (aCons (tupE (aCons (cst (.str [109, 117, 108])) (aCons (cst (.int 2)) aNil))) aNil)))) (aCons (tupE (aCons (tupE (aCons (cst (.str [97])) (aCons (cst (.int 0)) aNil))) (aCons (tupE (aCons (cst (.str [98])) (aCons (cst (.int 0)) aNil))) (aCons (tupE (aCons (cst (.str [102])) (aCons (cst (.int 1)) aNil))) (aCons (tupE (aCons (cst (.str [103])) (aCons (cst (.int 1)) aNil))) (aCons (tupE (aCons (cst (.str [107])) (aCons (cst (.int 3)) aNil))) aNil)))))) aNil))))
 (seq
 (asg (gName 2) (tupE (aCons (tupE (aCons (tupE (aCons (cst (.int 1)) (aCons (cst (.int 0)) (aCons (cst (.int 0)) (aCons (cst (.int 0)) aNil))))) (aCons (cst (.bl true)) aNil))) (aCons (tupE (aCons (tupE (aCons (o1 (fun _ => dNeg) (.ex (cst (.int 1)))) (aCons (cst (.int 1)) (aCons (cst (.int 0)) (aCons (cst (.int 0)) aNil))))) (aCons (cst (.bl false)) aNil))) (aCons (tupE (aCons (tupE (aCons (cst (.int 0)) (aCons (cst (.int 0)) (aCons (cst (.int 1)) (aCons (cst (.int 0)) aNil))))) (aCons (cst (.bl false)) aNil))) (aCons (tupE (aCons (tupE (aCons (cst (.int 0)) (aCons (cst (.int 0)) (aCons (cst (.int 0)) (aCons (cst (.int 1)) aNil))))) (aCons (cst (.bl false)) aNil))) aNil))))))
 (seq
 (asg (gName 3) (o2 (fun _ => dAdd) (.ex (o2 (fun _ => dAdd) (.ex (cutE (.pk 2) none (some (cst (.int 2))))) (.ex (tupE (aCons (tupE (aCons (tupE (aCons (cst (.int 0)) (aCons (cst (.int 0)) (aCons (cst (.int 1)) (aCons (cst (.int 0)) aNil))))) (aCons (cst (.bl true)) aNil))) aNil))))) (.ex (cutE (.pk 2) (some (cst (.int 3))) none))))
 (seq
 (asg (gName 4) (lstE (aCons (callK [108, 105, 109, 105, 116, 115, 95, 111, 102] 2 (aCons (var 0) (aCons (tupE (aCons (cst (.str [105, 110, 118])) (aCons (cst (.str [109, 117, 108])) (aCons (cst (.str [101])) aNil)))) aNil)) aNil [.inl 0, .inl 1]) (aCons (callK [108, 105, 109, 105, 116, 115, 95, 111, 102] 0 aNil (aCons (tupE (aCons (cst (.str [105, 110, 118])) (aCons (cst (.str [101])) (aCons (cst (.str [109, 117, 108])) aNil)))) (aCons (var 0) aNil)) [.inl 1, .inl 0]) aNil))))
 (seq
 (asg (gName 4) (o2 (fun _ => dAdd) (.pk 4) (.ex (lstE (aCons (callK [108, 105, 109, 105, 116, 115, 95, 111, 102] 2 (aCons (var 0) (aCons (tupE (aCons (cst (.str [109, 117, 108])) (aCons (cst (.str [105, 110, 118])) (aCons (cst (.str [101])) aNil)))) aNil)) aNil [.inl 0, .inl 1]) (aCons (callK [108, 105, 109, 105, 116, 115, 95, 111, 102] 2 (aCons (var 0) (aCons (tupE (aCons (cst (.str [101])) (aCons (cst (.str [105, 110, 118])) (aCons (cst (.str [109, 117, 108])) aNil)))) aNil)) aNil [.inl 0, .inl 1]) aNil))))))
 (seq
 (ifS (tE (o2 (fun _ => dNe) (.ex (o1 (fun _ => dRepr) (.pk 4))) (.ex (o1 (fun _ => dRepr) (.ex (lstE (aCons (var 2) (aCons (var 2) (aCons (var 3) (aCons (var 3) aNil)))))))))) (ret (cst (.bl false))) pass)
 (seq
 (asg (gName 2) (tupE (aCons (tupE (aCons (tupE (aCons (cst (.int 1)) (aCons (cst (.int 0)) (aCons (cst (.int 0)) (aCons (cst (.int 0)) (aCons (cst (.int 0)) (aCons (cst (.int 0)) aNil))))))) (aCons (cst (.bl true)) aNil))) (aCons (tupE (aCons (tupE (aCons (o1 (fun _ => dNeg) (.ex (cst (.int 1)))) (aCons (cst (.int 1)) (aCons (cst (.int 0)) (aCons (cst (.int 0)) (aCons (cst (.int 0)) (aCons (cst (.int 0)) aNil))))))) (aCons (cst (.bl false)) aNil))) (aCons (tupE (aCons (tupE (aCons (o1 (fun _ => dNeg) (.ex (cst (.int 1)))) (aCons (cst (.int 0)) (aCons (cst (.int 1)) (aCons (cst (.int 0)) (aCons (cst (.int 0)) (aCons (cst (.int 0)) aNil))))))) (aCons (cst (.bl false)) aNil))) aNil)))))
 (seq
 (asg (gName 2) (o2 (fun _ => dAdd) (.pk 2) (.ex (tupE (aCons (tupE (aCons (tupE (aCons (cst (.int 0)) (aCons (cst (.int 0)) (aCons (cst (.int 0)) (aCons (cst (.int 1)) (aCons (cst (.int 0)) (aCons (cst (.int 0)) aNil))))))) (aCons (cst (.bl true)) aNil))) (aCons (tupE (aCons (tupE (aCons (cst (.int 0)) (aCons (cst (.int 0)) (aCons (cst (.int 0)) (aCons (cst (.int 0)) (aCons (cst (.int 1)) (aCons (cst (.int 0)) aNil))))))) (aCons (cst (.bl false)) aNil))) (aCons (tupE (aCons (tupE (aCons (cst (.int 0)) (aCons (cst (.int 0)) (aCons (cst (.int 0)) (aCons (cst (.int 0)) (aCons (cst (.int 0)) (aCons (cst (.int 1)) aNil))))))) (aCons (cst (.bl false)) aNil))) aNil)))))))
 (seq
 (asg (gName 5) (o2 (fun _ => dAdd) (.ex (o2 (fun _ => dAdd) (.ex (cutE (.pk 2) none (some (cst (.int 3))))) (.ex (tupE (aCons (tupE (aCons (tupE (aCons (cst (.int 0)) (aCons (cst (.int 0)) (aCons (cst (.int 0)) (aCons (cst (.int 1)) (aCons (cst (.int 0)) (aCons (cst (.int 0)) aNil))))))) (aCons (cst (.bl true)) aNil))) (aCons (tupE (aCons (tupE (aCons (cst (.int 0)) (aCons (cst (.int 0)) (aCons (cst (.int 0)) (aCons (cst (.int 0)) (aCons (cst (.int 1)) (aCons (cst (.int 0)) aNil))))))) (aCons (cst (.bl true)) aNil))) aNil)))))) (.ex (cutE (.pk 2) (some (cst (.int 5))) none))))
 (seq
 (asg (gName 4) (lstE (aCons (callK [108, 105, 109, 105, 116, 115, 95, 111, 102] 2 (aCons (var 1) (aCons (tupE (aCons (cst (.str [103])) (aCons (cst (.str [102])) (aCons (cst (.str [97])) (aCons (cst (.str [107])) (aCons (cst (.str [98])) aNil)))))) aNil)) aNil [.inl 0, .inl 1]) (aCons (callK [108, 105, 109, 105, 116, 115, 95, 111, 102] 2 (aCons (var 1) (aCons (tupE (aCons (cst (.str [107])) (aCons (cst (.str [103])) (aCons (cst (.str [102])) (aCons (cst (.str [98])) (aCons (cst (.str [97])) aNil)))))) aNil)) aNil [.inl 0, .inl 1]) aNil))))
 (ret (o2 (fun _ => dEq) (.ex (o1 (fun _ => dRepr) (.pk 4))) (.ex (o1 (fun _ => dRepr) (.ex (lstE (aCons (var 2) (aCons (var 5) aNil))))))))))))))))))⟩
def f__law_led : Fn := ⟨2, 3,
(seq
 (ifS (tE (o1 (isTy .int) (.pk 1))) (ret (o2 dIx (.pk 0) (.pk 1))) pass)
 (ret (o2 (fun _ => dAdd) (.ex (tupE (aCons (o2 dIx (.pk 1) (.ex (cst (.int 0)))) aNil))) (.ex (o1 (fun _ => dTup) (.ex (comp (iVal (cutE (.pk 1) (some (cst (.int 1))) none)) (gName 2) tYes (callK [95, 108, 97, 119, 95, 108, 101, 100] 2 (aCons (var 0) (aCons (var 2) aNil)) aNil [.inl 0, .inl 1]) [2])))))))⟩
def f__law_is_right : Fn := ⟨4, 12,
(seq
 (parS [4, 5] [(true, (lstE (aCons (cst (.int 0)) (aCons (cst (.int 1)) (aCons (cst (.int 2)) (aCons (cst (.int 5)) (aCons (cst (.int 10)) (aCons (o2 (fun _ => dPow) (.ex (cst (.int 10))) (.ex (cst (.int 59)))) aNil)))))))), (true, newK)])
 (seq
 (forS (iArgs fRng1 (aCons (cst (.int 3)) aNil)) (gName 6) (putS 5 (var 6) (popAtE 4 (callK [95, 108, 97, 119, 95, 100, 114, 97, 119] 2 (aCons (var 0) (aCons (o1 dLen (.pk 4)) aNil)) aNil [.inl 0, .inl 1]))))
 (seq
 (asg (gName 7) (tupE (aCons (callK [95, 108, 97, 119, 95, 108, 101, 100] 2 (aCons (var 5) (aCons (o2 dIx (.pk 2) (.ex (cst (.int 0)))) aNil)) aNil [.inl 0, .inl 1]) (aCons (callK [95, 108, 97, 119, 95, 108, 101, 100] 2 (aCons (var 5) (aCons (o2 dIx (.pk 2) (.ex (cst (.int 1)))) aNil)) aNil [.inl 0, .inl 1]) aNil))))
 (seq
 (asg (gName 8) (o1 (fun _ => dRepr) (.ex (lstE (aCons (var 2) (aCons (var 7) aNil))))))
 (seq
 (forS (iArgs fZip (aCons (lstE (aCons (tupE (aCons (cst (.str [105, 110, 118])) (aCons (cst (.str [109, 117, 108])) (aCons (cst (.str [101])) aNil)))) (aCons (tupE (aCons (cst (.str [101])) (aCons (cst (.str [109, 117, 108])) (aCons (cst (.str [105, 110, 118])) aNil)))) aNil))) (aCons (var 3) aNil))) (gTup [(gName 9), (gName 10)]) (seq
 (asg (gName 11) (lstE (aCons (callK [99, 104, 97, 105, 110, 95, 111, 102] 3 (aCons (var 1) (aCons (var 9) (aCons (var 2) aNil))) aNil [.inl 0, .inl 1, .inl 2]) (aCons (callK [99, 104, 97, 105, 110, 95, 111, 102] 0 aNil (aCons (var 7) (aCons (var 9) (aCons (var 1) aNil))) [.inl 2, .inl 1, .inl 0]) (aCons (callK [99, 104, 97, 105, 110, 95, 111, 102] 3 (aCons (var 1) (aCons (var 9) (aCons (var 2) aNil))) aNil [.inl 0, .inl 1, .inl 2]) aNil)))))
 (ifS (tE (o2 (fun _ => dNe) (.ex (o1 (fun _ => dRepr) (.pk 11))) (.ex (o1 (fun _ => dRepr) (.ex (o2 (fun _ => dMul) (.ex (lstE (aCons (var 10) aNil))) (.ex (cst (.int 3))))))))) (ret (cst (.bl false))) pass)))
 (ret (o2 (fun _ => dEq) (.ex (o1 (fun _ => dRepr) (.ex (lstE (aCons (var 2) (aCons (var 7) aNil)))))) (.pk 8))))))))⟩
def f_law : Fn := ⟨1, 10,
(seq
 (parS [1, 2] [(false, (callK [95, 108, 97, 119, 95, 102, 101, 101, 100] 1 (aCons (var 0) aNil) aNil [.inl 0])), (false, (tupE (aCons (tupE (aCons (cst (.str [101])) (aCons (cst (.int 0)) aNil))) (aCons (tupE (aCons (cst (.str [105, 110, 118])) (aCons (cst (.int 1)) aNil))) (aCons (tupE (aCons (cst (.str [109, 117, 108])) (aCons (cst (.int 2)) aNil))) aNil)))))])
 (seq
 (ifS (tNot (tE (callK [95, 108, 97, 119, 95, 97, 114, 101, 95, 108, 105, 109, 105, 116, 115] 0 aNil aNil []))) (ret (cst (.bl false))) pass)
 (seq
 (forS (iVal (callK [95, 108, 97, 119, 95, 99, 104, 97, 105, 110, 115] 0 aNil aNil [])) (gTup [(gName 3), (gName 4), (gName 5)]) (ifS (tNot (tE (callK [95, 108, 97, 119, 95, 105, 115, 95, 114, 105, 103, 104, 116] 4 (aCons (var 1) (aCons (var 2) (aCons (var 3) (aCons (lstE (aCons (var 4) (aCons (var 5) aNil))) aNil)))) aNil [.inl 0, .inl 1, .inl 2, .inl 3]))) (ret (cst (.bl false))) pass))
 (seq
 (asg (gName 6) (tupE (aCons (tupE (aCons (cst (.str [97])) (aCons (cst (.int 0)) aNil))) (aCons (tupE (aCons (cst (.str [102])) (aCons (cst (.int 1)) aNil))) (aCons (tupE (aCons (cst (.str [107])) (aCons (cst (.int 3)) aNil))) aNil)))))
 (seq
 (asg (gTup [(gName 7), (gName 8)]) (tupE (aCons (tupE (aCons (cst (.str [107])) (aCons (cst (.int 0)) (aCons (tupE (aCons (cst (.str [102])) (aCons (cst (.int 1)) aNil))) (aCons (tupE (aCons (cst (.str [97])) aNil)) aNil))))) (aCons (tupE (aCons (cst (.str [107])) (aCons (cst (.int 0)) (aCons (tupE (aCons (cst (.str [102])) (aCons (tupE (aCons (cst (.str [97])) aNil)) aNil))) (aCons (cst (.int 1)) aNil))))) aNil))))
 (seq
 (asg (gName 9) (lstE (aCons (callK [99, 104, 97, 105, 110, 95, 111, 102] 3 (aCons (var 6) (aCons (tupE (aCons (cst (.str [102])) (aCons (cst (.str [107])) (aCons (cst (.str [97])) aNil)))) (aCons (tupE (aCons (var 7) (aCons (var 8) aNil))) aNil))) aNil [.inl 0, .inl 1, .inl 2]) (aCons (callK [99, 104, 97, 105, 110, 95, 111, 102] 3 (aCons (var 6) (aCons (tupE (aCons (cst (.str [102])) (aCons (cst (.str [107])) (aCons (cst (.str [97])) aNil)))) (aCons (tupE (aCons (var 8) (aCons (var 7) aNil))) aNil))) aNil [.inl 0, .inl 1, .inl 2]) aNil))))
 (ret (o2 (fun _ => dEq) (.ex (o1 (fun _ => dRepr) (.pk 9))) (.ex (o1 (fun _ => dRepr) (.ex (lstE (aCons (tupE (aCons (tupE (aCons (tupE (aCons (cst (.int 0)) (aCons (cst (.int 0)) (aCons (cst (.int 0)) (aCons (cst (.int 0)) aNil))))) (aCons (tupE (aCons (cst (.int 1)) (aCons (o1 (fun _ => dNeg) (.ex (cst (.int 1)))) (aCons (cst (.int 0)) (aCons (cst (.int 0)) aNil))))) aNil))) (aCons (cst (.str [104, 111, 108, 101])) aNil))) (aCons (tupE (aCons (tupE (aCons (tupE (aCons (cst (.int 0)) (aCons (cst (.int 0)) (aCons (cst (.int 0)) (aCons (cst (.int 0)) aNil))))) aNil)) (aCons (cst (.str [104, 111, 108, 101, 115])) aNil))) aNil))))))))))))))⟩
def tabL : List (Nm × Fn) := [([105, 115, 95, 105, 110, 116, 101, 103, 101, 114], f_is_integer),
  ([105, 115, 95, 110, 117, 109, 98, 101, 114], f_is_number),
  ([105, 115, 95, 110, 97, 109, 101], f_is_name),
  ([105, 115, 95, 112, 97, 105, 114], f_is_pair),
  ([105, 115, 95, 115, 105, 103, 110], f_is_sign),
  ([105, 115, 95, 104, 111, 108, 101], f_is_hole),
  ([112, 108, 97, 99, 101, 115, 95, 98, 121], f_places_by),
  ([114, 111, 119, 115, 95, 111, 102], f_rows_of),
  ([116, 101, 114, 109, 115, 95, 105, 110], f_terms_in),
  ([104, 111, 108, 101, 115, 95, 111, 102], f_holes_of),
  ([99, 111, 117, 110, 116, 115, 95, 98, 121], f_counts_by),
  ([117, 110, 105, 116, 95, 97, 116], f_unit_at),
  ([108, 105, 109, 105, 116, 115, 95, 98, 121], f_limits_by),
  ([102, 111, 114, 109, 95, 98, 121], f_form_by),
  ([104, 97, 115, 95, 109, 111, 114, 101, 95, 104, 111, 108, 101, 115], f_has_more_holes),
  ([102, 105, 114, 115, 116, 95, 101, 110, 100], f_first_end),
  ([115, 104, 97, 112, 101, 95, 98, 121], f_shape_by),
  ([101, 110, 100, 95, 117, 110, 100, 101, 114], f_end_under),
  ([99, 104, 97, 105, 110, 95, 98, 121], f_chain_by),
  ([105, 115, 95, 114, 97, 110, 107, 95, 111, 102], f_is_rank_of),
  ([98, 111, 111, 107, 95, 102, 97, 117, 108, 116], f_book_fault),
  ([105, 115, 95, 98, 111, 111, 107], f_is_book),
  ([119, 97, 110, 116], f_want),
  ([119, 97, 110, 116, 95, 98, 111, 111, 107], f_want_book),
  ([105, 115, 95, 104, 101, 97, 100, 101, 100], f_is_headed),
  ([116, 101, 114, 109, 95, 102, 97, 117, 108, 116], f_term_fault),
  ([105, 115, 95, 116, 101, 114, 109, 95, 98, 121], f_is_term_by),
  ([105, 115, 95, 114, 117, 108, 101, 95, 98, 121], f_is_rule_by),
  ([105, 115, 95, 114, 117, 108, 101], f_is_rule),
  ([119, 97, 110, 116, 95, 114, 117, 108, 101], f_want_rule),
  ([119, 97, 110, 116, 95, 114, 97, 110, 107], f_want_rank),
  ([108, 105, 109, 105, 116, 115, 95, 111, 102], f_limits_of),
  ([99, 104, 97, 105, 110, 95, 111, 102], f_chain_of),
  ([95, 108, 97, 119, 95, 102, 101, 101, 100], f__law_feed),
  ([95, 108, 97, 119, 95, 100, 114, 97, 119], f__law_draw),
  ([95, 108, 97, 119, 95, 99, 104, 97, 105, 110, 115], f__law_chains),
  ([95, 108, 97, 119, 95, 97, 114, 101, 95, 108, 105, 109, 105, 116, 115], f__law_are_limits),
  ([95, 108, 97, 119, 95, 108, 101, 100], f__law_led),
  ([95, 108, 97, 119, 95, 105, 115, 95, 114, 105, 103, 104, 116], f__law_is_right),
  ([108, 97, 119], f_law)]
def tab (x : Nm) : Option Fn := tabL.lookup x
noncomputable def ff_is_integer : Fn := ⟨1, 1,
(ret (eAnd (o1F (isTy .int) (.pk 0)) (eNot (o1F (isTy .bool) (.pk 0)))))⟩
theorem ff_is_integer_eq : ff_is_integer = f_is_integer := by unfold ff_is_integer f_is_integer; simp only [varF_eq, o1F_eq, o2F_eq, cutEF_eq, aStarF_eq, tupEF_eq, lstEF_eq, gNameF_eq, gTupF_eq, fEnumF_eq, fZipF_eq, dLzipF_eq, fRng1F_eq, fRng2F_eq, forSF_eq, whileSF_eq, compF_eq, callKF_eq, takeF_eq, appEF_eq, extEF_eq, dAddF_eq, dLenF_eq, dIxF_eq]
noncomputable def ff_is_number : Fn := ⟨1, 1,
(ret (eAnd (callKF [105, 115, 95, 105, 110, 116, 101, 103, 101, 114] 1 (aCons (varF 0) aNil) aNil [.inl 0]) (o2F (fun _ => dGe) (.pk 0) (.ex (cst (.int 0))))))⟩
theorem ff_is_number_eq : ff_is_number = f_is_number := by unfold ff_is_number f_is_number; simp only [varF_eq, o1F_eq, o2F_eq, cutEF_eq, aStarF_eq, tupEF_eq, lstEF_eq, gNameF_eq, gTupF_eq, fEnumF_eq, fZipF_eq, dLzipF_eq, fRng1F_eq, fRng2F_eq, forSF_eq, whileSF_eq, compF_eq, callKF_eq, takeF_eq, appEF_eq, extEF_eq, dAddF_eq, dLenF_eq, dIxF_eq]
noncomputable def ff_is_name : Fn := ⟨1, 2,
(ret (eAnd (o1F (isTy .str) (.pk 0)) (eAnd (eChain dLe dLe (cst (.int 1)) (o1F dLenF (.pk 0)) (cst (.int 8))) (o1F (fun _ => dAll) (.ex (compF (iVal (varF 0)) (gNameF 1) tYes (o2F dIn (.pk 1) (.ex (cst (.str [97, 98, 99, 100, 101, 102, 103, 104, 105, 106, 107, 108, 109, 110, 111, 112, 113, 114, 115, 116, 117, 118, 119, 120, 121, 122])))) [1]))))))⟩
theorem ff_is_name_eq : ff_is_name = f_is_name := by unfold ff_is_name f_is_name; simp only [varF_eq, o1F_eq, o2F_eq, cutEF_eq, aStarF_eq, tupEF_eq, lstEF_eq, gNameF_eq, gTupF_eq, fEnumF_eq, fZipF_eq, dLzipF_eq, fRng1F_eq, fRng2F_eq, forSF_eq, whileSF_eq, compF_eq, callKF_eq, takeF_eq, appEF_eq, extEF_eq, dAddF_eq, dLenF_eq, dIxF_eq]
noncomputable def ff_is_pair : Fn := ⟨1, 1,
(ret (eAnd (o1F (isTy .tup) (.pk 0)) (o2F (fun _ => dEq) (.ex (o1F dLenF (.pk 0))) (.ex (cst (.int 2))))))⟩
theorem ff_is_pair_eq : ff_is_pair = f_is_pair := by unfold ff_is_pair f_is_pair; simp only [varF_eq, o1F_eq, o2F_eq, cutEF_eq, aStarF_eq, tupEF_eq, lstEF_eq, gNameF_eq, gTupF_eq, fEnumF_eq, fZipF_eq, dLzipF_eq, fRng1F_eq, fRng2F_eq, forSF_eq, whileSF_eq, compF_eq, callKF_eq, takeF_eq, appEF_eq, extEF_eq, dAddF_eq, dLenF_eq, dIxF_eq]
noncomputable def ff_is_sign : Fn := ⟨1, 1,
(ret (eAnd (callKF [105, 115, 95, 112, 97, 105, 114] 1 (aCons (varF 0) aNil) aNil [.inl 0]) (eAnd (callKF [105, 115, 95, 110, 97, 109, 101] 1 (aCons (o2F dIxF (.pk 0) (.ex (cst (.int 0)))) aNil) aNil [.inl 0]) (eAnd (callKF [105, 115, 95, 110, 117, 109, 98, 101, 114] 1 (aCons (o2F dIxF (.pk 0) (.ex (cst (.int 1)))) aNil) aNil [.inl 0]) (o2F (fun _ => dLe) (.ex (o2F dIxF (.pk 0) (.ex (cst (.int 1))))) (.ex (cst (.int 3))))))))⟩
theorem ff_is_sign_eq : ff_is_sign = f_is_sign := by unfold ff_is_sign f_is_sign; simp only [varF_eq, o1F_eq, o2F_eq, cutEF_eq, aStarF_eq, tupEF_eq, lstEF_eq, gNameF_eq, gTupF_eq, fEnumF_eq, fZipF_eq, dLzipF_eq, fRng1F_eq, fRng2F_eq, forSF_eq, whileSF_eq, compF_eq, callKF_eq, takeF_eq, appEF_eq, extEF_eq, dAddF_eq, dLenF_eq, dIxF_eq]
noncomputable def ff_is_hole : Fn := ⟨1, 1,
(ret (callKF [105, 115, 95, 110, 117, 109, 98, 101, 114] 1 (aCons (varF 0) aNil) aNil [.inl 0]))⟩
theorem ff_is_hole_eq : ff_is_hole = f_is_hole := by unfold ff_is_hole f_is_hole; simp only [varF_eq, o1F_eq, o2F_eq, cutEF_eq, aStarF_eq, tupEF_eq, lstEF_eq, gNameF_eq, gTupF_eq, fEnumF_eq, fZipF_eq, dLzipF_eq, fRng1F_eq, fRng2F_eq, forSF_eq, whileSF_eq, compF_eq, callKF_eq, takeF_eq, appEF_eq, extEF_eq, dAddF_eq, dLenF_eq, dIxF_eq]
noncomputable def ff_places_by : Fn := ⟨1, 3,
(ret (compD (iVal (varF 0)) (gTupF [(gNameF 1), (gNameF 2)]) tYes (varF 1) (varF 2) [1, 2]))⟩
theorem ff_places_by_eq : ff_places_by = f_places_by := by unfold ff_places_by f_places_by; simp only [varF_eq, o1F_eq, o2F_eq, cutEF_eq, aStarF_eq, tupEF_eq, lstEF_eq, gNameF_eq, gTupF_eq, fEnumF_eq, fZipF_eq, dLzipF_eq, fRng1F_eq, fRng2F_eq, forSF_eq, whileSF_eq, compF_eq, callKF_eq, takeF_eq, appEF_eq, extEF_eq, dAddF_eq, dLenF_eq, dIxF_eq]
noncomputable def ff_rows_of : Fn := ⟨1, 6,
(seq
 (takeF 1 (lstEF (aCons (tupEF (aCons (tupEF aNil) (aCons (varF 0) aNil))) aNil)))
 (seq
 (ifS (tNot (tE (callKF [105, 115, 95, 104, 111, 108, 101] 1 (aCons (varF 0) aNil) aNil [.inl 0]))) (forSF (iArgs fEnumF (aCons (cutEF (.pk 0) (some (cst (.int 1))) none) aNil)) (gTupF [(gNameF 2), (gNameF 3)]) (exprS (extEF 1 (compF (iVal (callKF [114, 111, 119, 115, 95, 111, 102] 1 (aCons (varF 3) aNil) aNil [.inl 0])) (gTupF [(gNameF 4), (gNameF 5)]) tYes (tupEF (aCons (tupEF (aCons (varF 2) (aStarF (varF 4) aNil))) (aCons (varF 5) aNil))) [4, 5])))) pass)
 (ret (varF 1))))⟩
theorem ff_rows_of_eq : ff_rows_of = f_rows_of := by unfold ff_rows_of f_rows_of; simp only [varF_eq, o1F_eq, o2F_eq, cutEF_eq, aStarF_eq, tupEF_eq, lstEF_eq, gNameF_eq, gTupF_eq, fEnumF_eq, fZipF_eq, dLzipF_eq, fRng1F_eq, fRng2F_eq, forSF_eq, whileSF_eq, compF_eq, callKF_eq, takeF_eq, appEF_eq, extEF_eq, dAddF_eq, dLenF_eq, dIxF_eq]
noncomputable def ff_terms_in : Fn := ⟨1, 3,
(ret (compF (iVal (callKF [114, 111, 119, 115, 95, 111, 102] 1 (aCons (varF 0) aNil) aNil [.inl 0])) (gTupF [(gNameF 1), (gNameF 2)]) tYes (varF 2) [1, 2]))⟩
theorem ff_terms_in_eq : ff_terms_in = f_terms_in := by unfold ff_terms_in f_terms_in; simp only [varF_eq, o1F_eq, o2F_eq, cutEF_eq, aStarF_eq, tupEF_eq, lstEF_eq, gNameF_eq, gTupF_eq, fEnumF_eq, fZipF_eq, dLzipF_eq, fRng1F_eq, fRng2F_eq, forSF_eq, whileSF_eq, compF_eq, callKF_eq, takeF_eq, appEF_eq, extEF_eq, dAddF_eq, dLenF_eq, dIxF_eq]
noncomputable def ff_holes_of : Fn := ⟨1, 2,
(ret (o1F (fun _ => dTup) (.ex (o1F (fun _ => dSset) (.ex (compF (iVal (callKF [116, 101, 114, 109, 115, 95, 105, 110] 1 (aCons (varF 0) aNil) aNil [.inl 0])) (gNameF 1) (tE (callKF [105, 115, 95, 104, 111, 108, 101] 1 (aCons (varF 1) aNil) aNil [.inl 0])) (varF 1) [1]))))))⟩
theorem ff_holes_of_eq : ff_holes_of = f_holes_of := by unfold ff_holes_of f_holes_of; simp only [varF_eq, o1F_eq, o2F_eq, cutEF_eq, aStarF_eq, tupEF_eq, lstEF_eq, gNameF_eq, gTupF_eq, fEnumF_eq, fZipF_eq, dLzipF_eq, fRng1F_eq, fRng2F_eq, forSF_eq, whileSF_eq, compF_eq, callKF_eq, takeF_eq, appEF_eq, extEF_eq, dAddF_eq, dLenF_eq, dIxF_eq]
noncomputable def ff_counts_by : Fn := ⟨2, 6,
(seq
 (asg (gNameF 2) (compF (iVal (callKF [116, 101, 114, 109, 115, 95, 105, 110] 1 (aCons (varF 1) aNil) aNil [.inl 0])) (gNameF 3) tYes (eIf (tE (callKF [105, 115, 95, 104, 111, 108, 101] 1 (aCons (varF 3) aNil) aNil [.inl 0])) (cst (.str [])) (o2F dIxF (.pk 3) (.ex (cst (.int 0))))) [3]))
 (ret (tupEF (aCons (cntE false (.pk 2) (cst (.str []))) (aStarF (compF (iVal (varF 0)) (gTupF [(gNameF 4), (gNameF 5)]) tYes (cntE false (.pk 2) (varF 4)) [4, 5]) aNil)))))⟩
theorem ff_counts_by_eq : ff_counts_by = f_counts_by := by unfold ff_counts_by f_counts_by; simp only [varF_eq, o1F_eq, o2F_eq, cutEF_eq, aStarF_eq, tupEF_eq, lstEF_eq, gNameF_eq, gTupF_eq, fEnumF_eq, fZipF_eq, dLzipF_eq, fRng1F_eq, fRng2F_eq, forSF_eq, whileSF_eq, compF_eq, callKF_eq, takeF_eq, appEF_eq, extEF_eq, dAddF_eq, dLenF_eq, dIxF_eq]
noncomputable def ff_unit_at : Fn := ⟨3, 4,
(ret (o1F (fun _ => dTup) (.ex (compF (iArgs fRng1F (aCons (varF 0) aNil)) (gNameF 3) tYes (eIf (tE (o2F (fun _ => dEq) (.pk 3) (.pk 1))) (cst (.int 1)) (eIf (tE (o2F (fun _ => dEq) (.pk 3) (.pk 2))) (o1F (fun _ => dNeg) (.ex (cst (.int 1)))) (cst (.int 0)))) [3]))))⟩
theorem ff_unit_at_eq : ff_unit_at = f_unit_at := by unfold ff_unit_at f_unit_at; simp only [varF_eq, o1F_eq, o2F_eq, cutEF_eq, aStarF_eq, tupEF_eq, lstEF_eq, gNameF_eq, gTupF_eq, fEnumF_eq, fZipF_eq, dLzipF_eq, fRng1F_eq, fRng2F_eq, forSF_eq, whileSF_eq, compF_eq, callKF_eq, takeF_eq, appEF_eq, extEF_eq, dAddF_eq, dLenF_eq, dIxF_eq]
noncomputable def ff_limits_by : Fn := ⟨2, 8,
(seq
 (asg (gNameF 2) (o2F (fun _ => dAddF) (.ex (o1F dLenF (.pk 0))) (.ex (cst (.int 1)))))
 (seq
 (takeF 3 (lstEF (aCons (tupEF (aCons (callKF [117, 110, 105, 116, 95, 97, 116] 2 (aCons (varF 2) (aCons (cst (.int 0)) aNil)) aNil [.inl 0, .inl 1, .inr (.int (-1))]) (aCons (cst (.bl true)) aNil))) aNil)))
 (seq
 (forSF (iArgs fEnumF (aCons (varF 0) aNil)) (gTupF [(gNameF 4), (gTupF [(gNameF 5), (gNameF 6)])]) (seq
 (asg (gNameF 7) (callKF [117, 110, 105, 116, 95, 97, 116] 3 (aCons (varF 2) (aCons (o2F (fun _ => dAddF) (.pk 4) (.ex (cst (.int 1)))) (aCons (eIf (tE (o2F (fun _ => dEq) (.pk 6) (.ex (cst (.int 0))))) (cst (.int 0)) (o1F (fun _ => dNeg) (.ex (cst (.int 1))))) aNil))) aNil [.inl 0, .inl 1, .inl 2]))
 (exprS (appEF 3 (tupEF (aCons (varF 7) (aCons (eAnd (o2F (fun _ => dEq) (.pk 6) (.ex (cst (.int 1)))) (o2F (fun _ => dNe) (.pk 5) (.ex (o2F dIxF (.pk 1) (.ex (cst (.int 0))))))) aNil)))))))
 (ret (o1F (fun _ => dTup) (.pk 3))))))⟩
theorem ff_limits_by_eq : ff_limits_by = f_limits_by := by unfold ff_limits_by f_limits_by; simp only [varF_eq, o1F_eq, o2F_eq, cutEF_eq, aStarF_eq, tupEF_eq, lstEF_eq, gNameF_eq, gTupF_eq, fEnumF_eq, fZipF_eq, dLzipF_eq, fRng1F_eq, fRng2F_eq, forSF_eq, whileSF_eq, compF_eq, callKF_eq, takeF_eq, appEF_eq, extEF_eq, dAddF_eq, dLenF_eq, dIxF_eq]
noncomputable def ff_form_by : Fn := ⟨3, 5,
(ret (o1F (fun _ => dTup) (.ex (compF (iArgs fZipF (aCons (callKF [99, 111, 117, 110, 116, 115, 95, 98, 121] 2 (aCons (varF 0) (aCons (varF 1) aNil)) aNil [.inl 0, .inl 1]) (aCons (callKF [99, 111, 117, 110, 116, 115, 95, 98, 121] 2 (aCons (varF 0) (aCons (varF 2) aNil)) aNil [.inl 0, .inl 1]) aNil))) (gTupF [(gNameF 3), (gNameF 4)]) tYes (o2F (fun _ => dSub) (.pk 3) (.pk 4)) [3, 4]))))⟩
theorem ff_form_by_eq : ff_form_by = f_form_by := by unfold ff_form_by f_form_by; simp only [varF_eq, o1F_eq, o2F_eq, cutEF_eq, aStarF_eq, tupEF_eq, lstEF_eq, gNameF_eq, gTupF_eq, fEnumF_eq, fZipF_eq, dLzipF_eq, fRng1F_eq, fRng2F_eq, forSF_eq, whileSF_eq, compF_eq, callKF_eq, takeF_eq, appEF_eq, extEF_eq, dAddF_eq, dLenF_eq, dIxF_eq]
noncomputable def ff_has_more_holes : Fn := ⟨2, 5,
(seq
 (asg (gTupF [(gNameF 2), (gNameF 3)]) (tupEF (aCons (callKF [116, 101, 114, 109, 115, 95, 105, 110] 1 (aCons (varF 0) aNil) aNil [.inl 0]) (aCons (callKF [116, 101, 114, 109, 115, 95, 105, 110] 1 (aCons (varF 1) aNil) aNil [.inl 0]) aNil))))
 (ret (o1F (fun _ => dAny) (.ex (compF (iVal (callKF [104, 111, 108, 101, 115, 95, 111, 102] 1 (aCons (varF 1) aNil) aNil [.inl 0])) (gNameF 4) tYes (o2F (fun _ => dGt) (.ex (cntE false (.pk 3) (varF 4))) (.ex (cntE false (.pk 2) (varF 4)))) [4])))))⟩
theorem ff_has_more_holes_eq : ff_has_more_holes = f_has_more_holes := by unfold ff_has_more_holes f_has_more_holes; simp only [varF_eq, o1F_eq, o2F_eq, cutEF_eq, aStarF_eq, tupEF_eq, lstEF_eq, gNameF_eq, gTupF_eq, fEnumF_eq, fZipF_eq, dLzipF_eq, fRng1F_eq, fRng2F_eq, forSF_eq, whileSF_eq, compF_eq, callKF_eq, takeF_eq, appEF_eq, extEF_eq, dAddF_eq, dLenF_eq, dIxF_eq]
noncomputable def ff_first_end : Fn := ⟨2, 2,
(seq
 (ifS (tE (o2F (fun _ => dEq) (.pk 0) (.pk 1))) (ret (cst (.str [115, 97, 109, 101]))) pass)
 (seq
 (ifS (tE (callKF [105, 115, 95, 104, 111, 108, 101] 1 (aCons (varF 0) aNil) aNil [.inl 0])) (ret (cst (.str [104, 111, 108, 101]))) pass)
 (seq
 (ifS (tE (callKF [104, 97, 115, 95, 109, 111, 114, 101, 95, 104, 111, 108, 101, 115] 2 (aCons (varF 0) (aCons (varF 1) aNil)) aNil [.inl 0, .inl 1])) (ret (cst (.str [104, 111, 108, 101, 115]))) pass)
 (ret (eIf (tE (callKF [105, 115, 95, 104, 111, 108, 101] 1 (aCons (varF 1) aNil) aNil [.inl 0])) (cst (.str [103, 111, 111, 100])) (cst .non))))))⟩
theorem ff_first_end_eq : ff_first_end = f_first_end := by unfold ff_first_end f_first_end; simp only [varF_eq, o1F_eq, o2F_eq, cutEF_eq, aStarF_eq, tupEF_eq, lstEF_eq, gNameF_eq, gTupF_eq, fEnumF_eq, fZipF_eq, dLzipF_eq, fRng1F_eq, fRng2F_eq, forSF_eq, whileSF_eq, compF_eq, callKF_eq, takeF_eq, appEF_eq, extEF_eq, dAddF_eq, dLenF_eq, dIxF_eq]
noncomputable def ff_shape_by : Fn := ⟨2, 8,
(seq
 (asg (gTupF [(gNameF 2), (gNameF 3)]) (varF 1))
 (seq
 (takeF 4 (lstEF aNil))
 (seq
 (asg (gNameF 5) (callKF [102, 105, 114, 115, 116, 95, 101, 110, 100] 2 (aCons (varF 2) (aCons (varF 3) aNil)) aNil [.inl 0, .inl 1]))
 (seq
 (whileSF (tE (o1F (fun _ => dIsN) (.pk 5))) (seq
 (exprS (appEF 4 (callKF [102, 111, 114, 109, 95, 98, 121] 3 (aCons (varF 0) (aCons (varF 2) (aCons (varF 3) aNil))) aNil [.inl 0, .inl 1, .inl 2])))
 (seq
 (ifS (tE (o2F (fun _ => dNe) (.ex (o2F dIxF (.pk 2) (.ex (cst (.int 0))))) (.ex (o2F dIxF (.pk 3) (.ex (cst (.int 0))))))) (ret (tupEF (aCons (o1F (fun _ => dTup) (.pk 4)) (aCons (tupEF (aCons (o2F dIxF (.pk 2) (.ex (cst (.int 0)))) (aCons (o2F dIxF (.pk 3) (.ex (cst (.int 0)))) aNil))) aNil)))) pass)
 (seq
 (asg (gTupF [(gNameF 2), (gNameF 3)]) (o2F dIxF (.ex (compF (iArgs fZipF (aCons (cutEF (.pk 2) (some (cst (.int 1))) none) (aCons (cutEF (.pk 3) (some (cst (.int 1))) none) aNil))) (gTupF [(gNameF 6), (gNameF 7)]) (tE (o2F (fun _ => dNe) (.pk 6) (.pk 7))) (tupEF (aCons (varF 6) (aCons (varF 7) aNil))) [6, 7])) (.ex (cst (.int 0)))))
 (asg (gNameF 5) (callKF [102, 105, 114, 115, 116, 95, 101, 110, 100] 2 (aCons (varF 2) (aCons (varF 3) aNil)) aNil [.inl 0, .inl 1]))))))
 (ret (tupEF (aCons (o1F (fun _ => dTup) (.pk 4)) (aCons (varF 5) aNil))))))))⟩
theorem ff_shape_by_eq : ff_shape_by = f_shape_by := by unfold ff_shape_by f_shape_by; simp only [varF_eq, o1F_eq, o2F_eq, cutEF_eq, aStarF_eq, tupEF_eq, lstEF_eq, gNameF_eq, gTupF_eq, fEnumF_eq, fZipF_eq, dLzipF_eq, fRng1F_eq, fRng2F_eq, forSF_eq, whileSF_eq, compF_eq, callKF_eq, takeF_eq, appEF_eq, extEF_eq, dAddF_eq, dLenF_eq, dIxF_eq]
noncomputable def ff_end_under : Fn := ⟨2, 2,
(seq
 (ifS (tE (o1F (isTy .str) (.pk 1))) (ret (varF 1)) pass)
 (ret (eIf (tE (o2F (fun _ => dLt) (.ex (cntE true (.pk 0) (o2F dIxF (.pk 1) (.ex (cst (.int 0)))))) (.ex (cntE true (.pk 0) (o2F dIxF (.pk 1) (.ex (cst (.int 1)))))))) (cst (.str [103, 111, 111, 100])) (cst (.str [114, 97, 110, 107])))))⟩
theorem ff_end_under_eq : ff_end_under = f_end_under := by unfold ff_end_under f_end_under; simp only [varF_eq, o1F_eq, o2F_eq, cutEF_eq, aStarF_eq, tupEF_eq, lstEF_eq, gNameF_eq, gTupF_eq, fEnumF_eq, fZipF_eq, dLzipF_eq, fRng1F_eq, fRng2F_eq, forSF_eq, whileSF_eq, compF_eq, callKF_eq, takeF_eq, appEF_eq, extEF_eq, dAddF_eq, dLenF_eq, dIxF_eq]
noncomputable def ff_chain_by : Fn := ⟨3, 5,
(seq
 (asg (gTupF [(gNameF 3), (gNameF 4)]) (callKF [115, 104, 97, 112, 101, 95, 98, 121] 2 (aCons (varF 0) (aCons (varF 2) aNil)) aNil [.inl 0, .inl 1]))
 (ret (tupEF (aCons (varF 3) (aCons (callKF [101, 110, 100, 95, 117, 110, 100, 101, 114] 2 (aCons (varF 1) (aCons (varF 4) aNil)) aNil [.inl 0, .inl 1]) aNil)))))⟩
theorem ff_chain_by_eq : ff_chain_by = f_chain_by := by unfold ff_chain_by f_chain_by; simp only [varF_eq, o1F_eq, o2F_eq, cutEF_eq, aStarF_eq, tupEF_eq, lstEF_eq, gNameF_eq, gTupF_eq, fEnumF_eq, fZipF_eq, dLzipF_eq, fRng1F_eq, fRng2F_eq, forSF_eq, whileSF_eq, compF_eq, callKF_eq, takeF_eq, appEF_eq, extEF_eq, dAddF_eq, dLenF_eq, dIxF_eq]
noncomputable def ff_is_rank_of : Fn := ⟨2, 4,
(seq
 (ifS (tOr (tNot (tE (o1F (isTy .tup) (.pk 1)))) (tNot (tE (o1F (fun _ => dAll) (.ex (compF (iVal (varF 1)) (gNameF 2) tYes (o1F (isTy .str) (.pk 2)) [2])))))) (ret (cst (.bl false))) pass)
 (ret (o2F (fun _ => dEq) (.ex (o1F dSortH (.pk 1))) (.ex (compF (iVal (varF 0)) (gTupF [(gNameF 2), (gNameF 3)]) tYes (varF 2) [2, 3])))))⟩
theorem ff_is_rank_of_eq : ff_is_rank_of = f_is_rank_of := by unfold ff_is_rank_of f_is_rank_of; simp only [varF_eq, o1F_eq, o2F_eq, cutEF_eq, aStarF_eq, tupEF_eq, lstEF_eq, gNameF_eq, gTupF_eq, fEnumF_eq, fZipF_eq, dLzipF_eq, fRng1F_eq, fRng2F_eq, forSF_eq, whileSF_eq, compF_eq, callKF_eq, takeF_eq, appEF_eq, extEF_eq, dAddF_eq, dLenF_eq, dIxF_eq]
noncomputable def ff_book_fault : Fn := ⟨1, 5,
(seq
 (ifS (tNot (tE (o1F (isTy .tup) (.pk 0)))) (ret (tupEF (aCons (cst (.str [115, 104, 97, 112, 101])) (aCons (o1F (fun _ => dNeg) (.ex (cst (.int 1)))) aNil)))) pass)
 (seq
 (forSF (iArgs fEnumF (aCons (varF 0) aNil)) (gTupF [(gNameF 1), (gNameF 2)]) (seq
 (ifS (tNot (tE (callKF [105, 115, 95, 115, 105, 103, 110] 1 (aCons (varF 2) aNil) aNil [.inl 0]))) (ret (tupEF (aCons (cst (.str [115, 105, 103, 110])) (aCons (varF 1) aNil)))) pass)
 (ifS (tAnd (tE (o2F (fun _ => dGt) (.pk 1) (.ex (cst (.int 0))))) (tNot (tE (o2F (fun _ => dLt) (.ex (o2F dIxF (.ex (o2F dIxF (.pk 0) (.ex (o2F (fun _ => dSub) (.pk 1) (.ex (cst (.int 1))))))) (.ex (cst (.int 0))))) (.ex (o2F dIxF (.pk 2) (.ex (cst (.int 0))))))))) (ret (tupEF (aCons (cst (.str [111, 114, 100, 101, 114])) (aCons (varF 1) aNil)))) pass)))
 (seq
 (ifS (tNot (tE (o1F (fun _ => dAny) (.ex (compF (iVal (varF 0)) (gTupF [(gNameF 3), (gNameF 4)]) tYes (o2F (fun _ => dEq) (.pk 4) (.ex (cst (.int 0)))) [3, 4]))))) (ret (tupEF (aCons (cst (.str [99, 108, 111, 115, 101, 100])) (aCons (o1F (fun _ => dNeg) (.ex (cst (.int 1)))) aNil)))) pass)
 (ret (eIf (tE (o1F (fun _ => dAny) (.ex (compF (iVal (varF 0)) (gTupF [(gNameF 3), (gNameF 4)]) tYes (o2F (fun _ => dGt) (.pk 4) (.ex (cst (.int 1)))) [3, 4])))) (cst .non) (tupEF (aCons (cst (.str [119, 105, 100, 101])) (aCons (o1F (fun _ => dNeg) (.ex (cst (.int 1)))) aNil))))))))⟩
theorem ff_book_fault_eq : ff_book_fault = f_book_fault := by unfold ff_book_fault f_book_fault; simp only [varF_eq, o1F_eq, o2F_eq, cutEF_eq, aStarF_eq, tupEF_eq, lstEF_eq, gNameF_eq, gTupF_eq, fEnumF_eq, fZipF_eq, dLzipF_eq, fRng1F_eq, fRng2F_eq, forSF_eq, whileSF_eq, compF_eq, callKF_eq, takeF_eq, appEF_eq, extEF_eq, dAddF_eq, dLenF_eq, dIxF_eq]
noncomputable def ff_is_book : Fn := ⟨1, 1,
(ret (o1F (fun _ => dIsN) (.ex (callKF [98, 111, 111, 107, 95, 102, 97, 117, 108, 116] 1 (aCons (varF 0) aNil) aNil [.inl 0]))))⟩
theorem ff_is_book_eq : ff_is_book = f_is_book := by unfold ff_is_book f_is_book; simp only [varF_eq, o1F_eq, o2F_eq, cutEF_eq, aStarF_eq, tupEF_eq, lstEF_eq, gNameF_eq, gTupF_eq, fEnumF_eq, fZipF_eq, dLzipF_eq, fRng1F_eq, fRng2F_eq, forSF_eq, whileSF_eq, compF_eq, callKF_eq, takeF_eq, appEF_eq, extEF_eq, dAddF_eq, dLenF_eq, dIxF_eq]
noncomputable def ff_want : Fn := ⟨3, 3,
(ifS (tNot (tE (varF 0))) never pass)⟩
theorem ff_want_eq : ff_want = f_want := by unfold ff_want f_want; simp only [varF_eq, o1F_eq, o2F_eq, cutEF_eq, aStarF_eq, tupEF_eq, lstEF_eq, gNameF_eq, gTupF_eq, fEnumF_eq, fZipF_eq, dLzipF_eq, fRng1F_eq, fRng2F_eq, forSF_eq, whileSF_eq, compF_eq, callKF_eq, takeF_eq, appEF_eq, extEF_eq, dAddF_eq, dLenF_eq, dIxF_eq]
noncomputable def ff_want_book : Fn := ⟨1, 1,
(exprS (callKF [119, 97, 110, 116] 2 (aCons (callKF [105, 115, 95, 98, 111, 111, 107] 1 (aCons (varF 0) aNil) aNil [.inl 0]) (aCons (cst (.str [98, 111, 111, 107])) aNil)) aNil [.inl 0, .inl 1, .inr (.int (-1))]))⟩
theorem ff_want_book_eq : ff_want_book = f_want_book := by unfold ff_want_book f_want_book; simp only [varF_eq, o1F_eq, o2F_eq, cutEF_eq, aStarF_eq, tupEF_eq, lstEF_eq, gNameF_eq, gTupF_eq, fEnumF_eq, fZipF_eq, dLzipF_eq, fRng1F_eq, fRng2F_eq, forSF_eq, whileSF_eq, compF_eq, callKF_eq, takeF_eq, appEF_eq, extEF_eq, dAddF_eq, dLenF_eq, dIxF_eq]
noncomputable def ff_is_headed : Fn := ⟨2, 2,
(seq
 (ifS (tOr (tNot (tE (o1F (isTy .tup) (.pk 1)))) (tOr (tE (o2F (fun _ => dEq) (.ex (o1F dLenF (.pk 1))) (.ex (cst (.int 0))))) (tNot (tE (o1F (isTy .str) (.ex (o2F dIxF (.pk 1) (.ex (cst (.int 0)))))))))) (ret (cst (.bl false))) pass)
 (ret (eAnd (o2F dIn (.ex (o2F dIxF (.pk 1) (.ex (cst (.int 0))))) (.pk 0)) (o2F (fun _ => dEq) (.ex (o1F dLenF (.pk 1))) (.ex (o2F (fun _ => dAddF) (.ex (o2F dIxF (.pk 0) (.ex (o2F dIxF (.pk 1) (.ex (cst (.int 0))))))) (.ex (cst (.int 1)))))))))⟩
theorem ff_is_headed_eq : ff_is_headed = f_is_headed := by unfold ff_is_headed f_is_headed; simp only [varF_eq, o1F_eq, o2F_eq, cutEF_eq, aStarF_eq, tupEF_eq, lstEF_eq, gNameF_eq, gTupF_eq, fEnumF_eq, fZipF_eq, dLzipF_eq, fRng1F_eq, fRng2F_eq, forSF_eq, whileSF_eq, compF_eq, callKF_eq, takeF_eq, appEF_eq, extEF_eq, dAddF_eq, dLenF_eq, dIxF_eq]
noncomputable def ff_term_fault : Fn := ⟨2, 5,
(seq
 (ifS (tE (callKF [105, 115, 95, 104, 111, 108, 101] 1 (aCons (varF 1) aNil) aNil [.inl 0])) (ret (cst .non)) pass)
 (seq
 (ifS (tNot (tE (callKF [105, 115, 95, 104, 101, 97, 100, 101, 100] 2 (aCons (varF 0) (aCons (varF 1) aNil)) aNil [.inl 0, .inl 1]))) (ret (tupEF aNil)) pass)
 (seq
 (forSF (iArgs fEnumF (aCons (cutEF (.pk 1) (some (cst (.int 1))) none) aNil)) (gTupF [(gNameF 2), (gNameF 3)]) (seq
 (asg (gNameF 4) (callKF [116, 101, 114, 109, 95, 102, 97, 117, 108, 116] 2 (aCons (varF 0) (aCons (varF 3) aNil)) aNil [.inl 0, .inl 1]))
 (ifS (tE (o1F (fun _ => dNotN) (.pk 4))) (ret (tupEF (aCons (varF 2) (aStarF (varF 4) aNil)))) pass)))
 (ret (cst .non)))))⟩
theorem ff_term_fault_eq : ff_term_fault = f_term_fault := by unfold ff_term_fault f_term_fault; simp only [varF_eq, o1F_eq, o2F_eq, cutEF_eq, aStarF_eq, tupEF_eq, lstEF_eq, gNameF_eq, gTupF_eq, fEnumF_eq, fZipF_eq, dLzipF_eq, fRng1F_eq, fRng2F_eq, forSF_eq, whileSF_eq, compF_eq, callKF_eq, takeF_eq, appEF_eq, extEF_eq, dAddF_eq, dLenF_eq, dIxF_eq]
noncomputable def ff_is_term_by : Fn := ⟨2, 2,
(ret (o1F (fun _ => dIsN) (.ex (callKF [116, 101, 114, 109, 95, 102, 97, 117, 108, 116] 2 (aCons (varF 0) (aCons (varF 1) aNil)) aNil [.inl 0, .inl 1]))))⟩
theorem ff_is_term_by_eq : ff_is_term_by = f_is_term_by := by unfold ff_is_term_by f_is_term_by; simp only [varF_eq, o1F_eq, o2F_eq, cutEF_eq, aStarF_eq, tupEF_eq, lstEF_eq, gNameF_eq, gTupF_eq, fEnumF_eq, fZipF_eq, dLzipF_eq, fRng1F_eq, fRng2F_eq, forSF_eq, whileSF_eq, compF_eq, callKF_eq, takeF_eq, appEF_eq, extEF_eq, dAddF_eq, dLenF_eq, dIxF_eq]
noncomputable def ff_is_rule_by : Fn := ⟨2, 2,
(ret (eAnd (callKF [105, 115, 95, 112, 97, 105, 114] 1 (aCons (varF 1) aNil) aNil [.inl 0]) (eAnd (callKF [105, 115, 95, 116, 101, 114, 109, 95, 98, 121] 2 (aCons (varF 0) (aCons (o2F dIxF (.pk 1) (.ex (cst (.int 0)))) aNil)) aNil [.inl 0, .inl 1]) (callKF [105, 115, 95, 116, 101, 114, 109, 95, 98, 121] 2 (aCons (varF 0) (aCons (o2F dIxF (.pk 1) (.ex (cst (.int 1)))) aNil)) aNil [.inl 0, .inl 1]))))⟩
theorem ff_is_rule_by_eq : ff_is_rule_by = f_is_rule_by := by unfold ff_is_rule_by f_is_rule_by; simp only [varF_eq, o1F_eq, o2F_eq, cutEF_eq, aStarF_eq, tupEF_eq, lstEF_eq, gNameF_eq, gTupF_eq, fEnumF_eq, fZipF_eq, dLzipF_eq, fRng1F_eq, fRng2F_eq, forSF_eq, whileSF_eq, compF_eq, callKF_eq, takeF_eq, appEF_eq, extEF_eq, dAddF_eq, dLenF_eq, dIxF_eq]
noncomputable def ff_is_rule : Fn := ⟨2, 2,
(seq
 (exprS (callKF [119, 97, 110, 116, 95, 98, 111, 111, 107] 1 (aCons (varF 0) aNil) aNil [.inl 0]))
 (ret (callKF [105, 115, 95, 114, 117, 108, 101, 95, 98, 121] 2 (aCons (callKF [112, 108, 97, 99, 101, 115, 95, 98, 121] 1 (aCons (varF 0) aNil) aNil [.inl 0]) (aCons (varF 1) aNil)) aNil [.inl 0, .inl 1])))⟩
theorem ff_is_rule_eq : ff_is_rule = f_is_rule := by unfold ff_is_rule f_is_rule; simp only [varF_eq, o1F_eq, o2F_eq, cutEF_eq, aStarF_eq, tupEF_eq, lstEF_eq, gNameF_eq, gTupF_eq, fEnumF_eq, fZipF_eq, dLzipF_eq, fRng1F_eq, fRng2F_eq, forSF_eq, whileSF_eq, compF_eq, callKF_eq, takeF_eq, appEF_eq, extEF_eq, dAddF_eq, dLenF_eq, dIxF_eq]
noncomputable def ff_want_rule : Fn := ⟨2, 2,
(exprS (callKF [119, 97, 110, 116] 2 (aCons (callKF [105, 115, 95, 114, 117, 108, 101] 2 (aCons (varF 0) (aCons (varF 1) aNil)) aNil [.inl 0, .inl 1]) (aCons (cst (.str [114, 117, 108, 101])) aNil)) aNil [.inl 0, .inl 1, .inr (.int (-1))]))⟩
theorem ff_want_rule_eq : ff_want_rule = f_want_rule := by unfold ff_want_rule f_want_rule; simp only [varF_eq, o1F_eq, o2F_eq, cutEF_eq, aStarF_eq, tupEF_eq, lstEF_eq, gNameF_eq, gTupF_eq, fEnumF_eq, fZipF_eq, dLzipF_eq, fRng1F_eq, fRng2F_eq, forSF_eq, whileSF_eq, compF_eq, callKF_eq, takeF_eq, appEF_eq, extEF_eq, dAddF_eq, dLenF_eq, dIxF_eq]
noncomputable def ff_want_rank : Fn := ⟨2, 2,
(exprS (callKF [119, 97, 110, 116] 2 (aCons (callKF [105, 115, 95, 114, 97, 110, 107, 95, 111, 102] 2 (aCons (varF 0) (aCons (varF 1) aNil)) aNil [.inl 0, .inl 1]) (aCons (cst (.str [114, 97, 110, 107])) aNil)) aNil [.inl 0, .inl 1, .inr (.int (-1))]))⟩
theorem ff_want_rank_eq : ff_want_rank = f_want_rank := by unfold ff_want_rank f_want_rank; simp only [varF_eq, o1F_eq, o2F_eq, cutEF_eq, aStarF_eq, tupEF_eq, lstEF_eq, gNameF_eq, gTupF_eq, fEnumF_eq, fZipF_eq, dLzipF_eq, fRng1F_eq, fRng2F_eq, forSF_eq, whileSF_eq, compF_eq, callKF_eq, takeF_eq, appEF_eq, extEF_eq, dAddF_eq, dLenF_eq, dIxF_eq]
noncomputable def ff_limits_of : Fn := ⟨2, 2,
(seq
 (exprS (callKF [119, 97, 110, 116, 95, 98, 111, 111, 107] 1 (aCons (varF 0) aNil) aNil [.inl 0]))
 (seq
 (exprS (callKF [119, 97, 110, 116, 95, 114, 97, 110, 107] 2 (aCons (varF 0) (aCons (varF 1) aNil)) aNil [.inl 0, .inl 1]))
 (ret (callKF [108, 105, 109, 105, 116, 115, 95, 98, 121] 2 (aCons (varF 0) (aCons (varF 1) aNil)) aNil [.inl 0, .inl 1]))))⟩
theorem ff_limits_of_eq : ff_limits_of = f_limits_of := by unfold ff_limits_of f_limits_of; simp only [varF_eq, o1F_eq, o2F_eq, cutEF_eq, aStarF_eq, tupEF_eq, lstEF_eq, gNameF_eq, gTupF_eq, fEnumF_eq, fZipF_eq, dLzipF_eq, fRng1F_eq, fRng2F_eq, forSF_eq, whileSF_eq, compF_eq, callKF_eq, takeF_eq, appEF_eq, extEF_eq, dAddF_eq, dLenF_eq, dIxF_eq]
noncomputable def ff_chain_of : Fn := ⟨3, 3,
(seq
 (exprS (callKF [119, 97, 110, 116, 95, 98, 111, 111, 107] 1 (aCons (varF 0) aNil) aNil [.inl 0]))
 (seq
 (exprS (callKF [119, 97, 110, 116, 95, 114, 97, 110, 107] 2 (aCons (varF 0) (aCons (varF 1) aNil)) aNil [.inl 0, .inl 1]))
 (seq
 (exprS (callKF [119, 97, 110, 116, 95, 114, 117, 108, 101] 2 (aCons (varF 0) (aCons (varF 2) aNil)) aNil [.inl 0, .inl 1]))
 (ret (callKF [99, 104, 97, 105, 110, 95, 98, 121] 3 (aCons (varF 0) (aCons (varF 1) (aCons (varF 2) aNil))) aNil [.inl 0, .inl 1, .inl 2])))))⟩
theorem ff_chain_of_eq : ff_chain_of = f_chain_of := by unfold ff_chain_of f_chain_of; simp only [varF_eq, o1F_eq, o2F_eq, cutEF_eq, aStarF_eq, tupEF_eq, lstEF_eq, gNameF_eq, gTupF_eq, fEnumF_eq, fZipF_eq, dLzipF_eq, fRng1F_eq, fRng2F_eq, forSF_eq, whileSF_eq, compF_eq, callKF_eq, takeF_eq, appEF_eq, extEF_eq, dAddF_eq, dLenF_eq, dIxF_eq]
noncomputable def ff__law_feed : Fn := ⟨1, 1,
(ret (refE (dicE [((cst (.str [99, 101, 108, 108, 115])), (o1F (fun _ => dLst) (.ex (cutEF (.pk 0) none (some (cst (.int 63))))))), ((cst (.str [97, 116])), (cst (.int 0))), ((cst (.str [108, 101, 102, 116])), (cst (.int 0))), ((cst (.str [99, 111, 117, 110, 116])), (cst (.int 0)))])))⟩
theorem ff__law_feed_eq : ff__law_feed = f__law_feed := by unfold ff__law_feed f__law_feed; simp only [varF_eq, o1F_eq, o2F_eq, cutEF_eq, aStarF_eq, tupEF_eq, lstEF_eq, gNameF_eq, gTupF_eq, fEnumF_eq, fZipF_eq, dLzipF_eq, fRng1F_eq, fRng2F_eq, forSF_eq, whileSF_eq, compF_eq, callKF_eq, takeF_eq, appEF_eq, extEF_eq, dAddF_eq, dLenF_eq, dIxF_eq]
noncomputable def ff__law_draw : Fn := ⟨2, 6,
(seq
 (putS 0 (cst (.str [99, 111, 117, 110, 116])) (o2F (fun _ => dAddF) (.ex (o2F dIxF (.pk 0) (.ex (cst (.str [99, 111, 117, 110, 116]))))) (.ex (cst (.int 1)))))
 (seq
 (ifS (tE (o2F (fun _ => dGt) (.ex (o2F dIxF (.pk 0) (.ex (cst (.str [108, 101, 102, 116]))))) (.ex (cst (.int 0))))) (seq
 (asg (gNameF 5) (o2F (fun _ => dMod) (.ex (o1F (fun _ => dInt) (.ex (o2F dIxF (.pk 0) (.ex (cst (.str [108, 101, 102, 116]))))))) (.pk 1)))
 (seq
 (putS 0 (cst (.str [108, 101, 102, 116])) (o2F (fun _ => dFdiv) (.ex (o2F dIxF (.pk 0) (.ex (cst (.str [108, 101, 102, 116]))))) (.pk 1)))
 (ret (varF 5)))) pass)
 (seq
 (asg (gNameF 2) (o2F dIxF (.pk 0) (.ex (cst (.str [97, 116])))))
 (seq
 (putS 0 (cst (.str [97, 116])) (o2F (fun _ => dAddF) (.pk 2) (.ex (cst (.int 1)))))
 (seq
 (asg (gNameF 3) (eIf (tE (o2F (fun _ => dNe) (.ex (o2F dIxF (.pk 0) (.ex (cst (.str [99, 101, 108, 108, 115]))))) (.ex (lstEF aNil)))) (o2F dIxF (.ex (o2F dIxF (.pk 0) (.ex (cst (.str [99, 101, 108, 108, 115]))))) (.ex (o2F (fun _ => dMod) (.ex (o1F (fun _ => dInt) (.pk 2))) (.ex (o1F dLenF (.ex (o2F dIxF (.pk 0) (.ex (cst (.str [99, 101, 108, 108, 115])))))))))) (cst (.int 7247))))
 (seq
 (ifS (tAnd (tE (o2F (fun _ => dGe) (.pk 3) (.ex (o2F (fun _ => dPow) (.ex (cst (.int 10))) (.ex (cst (.int 18))))))) (tE (o2F (fun _ => dLt) (.pk 2) (.ex (o1F dLenF (.ex (o2F dIxF (.pk 0) (.ex (cst (.str [99, 101, 108, 108, 115])))))))))) (seq
 (putS 0 (cst (.str [108, 101, 102, 116])) (o2F (fun _ => dFdiv) (.pk 3) (.pk 1)))
 (ret (o2F (fun _ => dMod) (.ex (o1F (fun _ => dInt) (.pk 3))) (.pk 1)))) pass)
 (seq
 (asg (gNameF 4) (o2F (fun _ => dMod) (.ex (o1F (fun _ => dInt) (.ex (o2F (fun _ => dAddF) (.ex (o2F (fun _ => dAddF) (.ex (o2F (fun _ => dMod) (.ex (o1F (fun _ => dInt) (.pk 3))) (.ex (cst (.int 1000000193))))) (.ex (o2F (fun _ => dMul) (.ex (cst (.int 93732))) (.ex (o2F dIxF (.pk 0) (.ex (cst (.str [99, 111, 117, 110, 116]))))))))) (.ex (cst (.int 60))))))) (.ex (cst (.int 2146905751)))))
 (seq
 (asg (gNameF 4) (o2F (fun _ => dMod) (.ex (o1F (fun _ => dInt) (.ex (o2F (fun _ => dAddF) (.ex (o2F (fun _ => dAddF) (.ex (o2F (fun _ => dMul) (.pk 4) (.pk 4))) (.ex (o2F (fun _ => dMul) (.ex (cst (.int 7170042))) (.ex (o2F dIxF (.pk 0) (.ex (cst (.str [99, 111, 117, 110, 116]))))))))) (.ex (cst (.int 738))))))) (.ex (cst (.int 2146905619)))))
 (ret (o2F (fun _ => dMod) (.ex (o1F (fun _ => dInt) (.ex (o2F (fun _ => dFdiv) (.ex (o2F (fun _ => dMod) (.ex (o1F (fun _ => dInt) (.ex (o2F (fun _ => dAddF) (.ex (o2F (fun _ => dMul) (.pk 4) (.pk 4))) (.ex (o2F (fun _ => dMul) (.ex (cst (.int 499))) (.pk 4))))))) (.ex (cst (.int 2146905487))))) (.ex (cst (.int 16))))))) (.pk 1)))))))))))⟩
theorem ff__law_draw_eq : ff__law_draw = f__law_draw := by unfold ff__law_draw f__law_draw; simp only [varF_eq, o1F_eq, o2F_eq, cutEF_eq, aStarF_eq, tupEF_eq, lstEF_eq, gNameF_eq, gTupF_eq, fEnumF_eq, fZipF_eq, dLzipF_eq, fRng1F_eq, fRng2F_eq, forSF_eq, whileSF_eq, compF_eq, callKF_eq, takeF_eq, appEF_eq, extEF_eq, dAddF_eq, dLenF_eq, dIxF_eq]
noncomputable def ff__law_chains : Fn := ⟨0, 9,
(seq
 (asg (gTupF [(gNameF 0), (gNameF 1), (gNameF 2)]) (tupEF (aCons (tupEF (aCons (cst (.int 0)) (aCons (cst (.int 0)) (aCons (cst (.int 0)) (aCons (cst (.int 0)) aNil))))) (aCons (tupEF (aCons (cst (.int 0)) (aCons (cst (.int 0)) (aCons (o1F (fun _ => dNeg) (.ex (cst (.int 1)))) (aCons (cst (.int 0)) aNil))))) (aCons (tupEF (aCons (cst (.str [101])) aNil)) aNil)))))
 (seq
 (asg (gNameF 3) (tupEF (aCons (tupEF (aCons (cst (.str [109, 117, 108])) (aCons (tupEF (aCons (cst (.str [109, 117, 108])) (aCons (cst (.int 0)) (aCons (cst (.int 1)) aNil)))) (aCons (cst (.int 2)) aNil)))) (aCons (tupEF (aCons (cst (.str [109, 117, 108])) (aCons (cst (.int 0)) (aCons (tupEF (aCons (cst (.str [109, 117, 108])) (aCons (cst (.int 1)) (aCons (cst (.int 2)) aNil)))) aNil)))) aNil))))
 (seq
 (takeF 4 (lstEF (aCons (tupEF (aCons (tupEF (aCons (tupEF (aCons (cst (.str [105, 110, 118])) (aCons (tupEF (aCons (cst (.str [109, 117, 108])) (aCons (cst (.int 0)) (aCons (cst (.int 1)) aNil)))) aNil))) (aCons (tupEF (aCons (cst (.str [109, 117, 108])) (aCons (tupEF (aCons (cst (.str [105, 110, 118])) (aCons (cst (.int 1)) aNil))) (aCons (tupEF (aCons (cst (.str [105, 110, 118])) (aCons (cst (.int 0)) aNil))) aNil)))) aNil))) (aCons (tupEF (aCons (tupEF (aCons (varF 1) aNil)) (aCons (cst (.str [103, 111, 111, 100])) aNil))) (aCons (tupEF (aCons (tupEF (aCons (varF 1) aNil)) (aCons (cst (.str [114, 97, 110, 107])) aNil))) aNil)))) aNil)))
 (seq
 (exprS (appEF 4 (tupEF (aCons (tupEF (aCons (tupEF (aCons (cst (.str [109, 117, 108])) (aCons (varF 2) (aCons (cst (.int 0)) aNil)))) (aCons (cst (.int 0)) aNil))) (aCons (tupEF (aCons (tupEF aNil) (aCons (cst (.str [103, 111, 111, 100])) aNil))) (aCons (tupEF (aCons (tupEF aNil) (aCons (cst (.str [103, 111, 111, 100])) aNil))) aNil))))))
 (seq
 (exprS (appEF 4 (tupEF (aCons (tupEF (aCons (cst (.int 0)) (aCons (varF 2) aNil))) (aCons (tupEF (aCons (tupEF aNil) (aCons (cst (.str [104, 111, 108, 101])) aNil))) (aCons (tupEF (aCons (tupEF aNil) (aCons (cst (.str [104, 111, 108, 101])) aNil))) aNil))))))
 (seq
 (exprS (appEF 4 (tupEF (aCons (tupEF (aCons (cst (.int 0)) (aCons (cst (.int 0)) aNil))) (aCons (tupEF (aCons (tupEF aNil) (aCons (cst (.str [115, 97, 109, 101])) aNil))) (aCons (tupEF (aCons (tupEF aNil) (aCons (cst (.str [115, 97, 109, 101])) aNil))) aNil))))))
 (seq
 (exprS (appEF 4 (tupEF (aCons (tupEF (aCons (tupEF (aCons (cst (.str [109, 117, 108])) (aCons (cst (.int 0)) (aCons (varF 2) aNil)))) (aCons (tupEF (aCons (cst (.str [109, 117, 108])) (aCons (cst (.int 0)) (aCons (varF 2) aNil)))) aNil))) (aCons (tupEF (aCons (tupEF aNil) (aCons (cst (.str [115, 97, 109, 101])) aNil))) (aCons (tupEF (aCons (tupEF aNil) (aCons (cst (.str [115, 97, 109, 101])) aNil))) aNil))))))
 (seq
 (exprS (appEF 4 (tupEF (aCons (tupEF (aCons (varF 2) (aCons (cst (.int 0)) aNil))) (aCons (tupEF (aCons (tupEF aNil) (aCons (cst (.str [104, 111, 108, 101, 115])) aNil))) (aCons (tupEF (aCons (tupEF aNil) (aCons (cst (.str [104, 111, 108, 101, 115])) aNil))) aNil))))))
 (seq
 (exprS (appEF 4 (tupEF (aCons (tupEF (aCons (tupEF (aCons (cst (.str [105, 110, 118])) (aCons (tupEF (aCons (cst (.str [105, 110, 118])) (aCons (cst (.int 0)) aNil))) aNil))) (aCons (tupEF (aCons (cst (.str [109, 117, 108])) (aCons (cst (.int 0)) (aCons (cst (.int 0)) aNil)))) aNil))) (aCons (tupEF (aCons (tupEF aNil) (aCons (cst (.str [104, 111, 108, 101, 115])) aNil))) (aCons (tupEF (aCons (tupEF aNil) (aCons (cst (.str [104, 111, 108, 101, 115])) aNil))) aNil))))))
 (seq
 (exprS (appEF 4 (tupEF (aCons (varF 3) (aCons (tupEF (aCons (tupEF (aCons (varF 0) aNil)) (aCons (cst (.str [103, 111, 111, 100])) aNil))) (aCons (tupEF (aCons (tupEF (aCons (varF 0) aNil)) (aCons (cst (.str [103, 111, 111, 100])) aNil))) aNil))))))
 (seq
 (exprS (appEF 4 (tupEF (aCons (o1F (fun _ => dRevA false) (.pk 3)) (aCons (tupEF (aCons (tupEF (aCons (varF 0) aNil)) (aCons (cst (.str [104, 111, 108, 101])) aNil))) (aCons (tupEF (aCons (tupEF (aCons (varF 0) aNil)) (aCons (cst (.str [104, 111, 108, 101])) aNil))) aNil))))))
 (seq
 (exprS (appEF 4 (tupEF (aCons (tupEF (aCons (tupEF (aCons (cst (.str [109, 117, 108])) (aCons (cst (.int 0)) (aCons (cst (.int 1)) aNil)))) (aCons (tupEF (aCons (cst (.str [109, 117, 108])) (aCons (cst (.int 1)) (aCons (cst (.int 0)) aNil)))) aNil))) (aCons (tupEF (aCons (tupEF (aCons (varF 0) aNil)) (aCons (cst (.str [104, 111, 108, 101])) aNil))) (aCons (tupEF (aCons (tupEF (aCons (varF 0) aNil)) (aCons (cst (.str [104, 111, 108, 101])) aNil))) aNil))))))
 (seq
 (exprS (appEF 4 (tupEF (aCons (tupEF (aCons (tupEF (aCons (cst (.str [109, 117, 108])) (aCons (tupEF (aCons (cst (.str [105, 110, 118])) (aCons (cst (.int 0)) aNil))) (aCons (cst (.int 1)) aNil)))) (aCons (tupEF (aCons (cst (.str [109, 117, 108])) (aCons (cst (.int 0)) (aCons (tupEF (aCons (cst (.str [105, 110, 118])) (aCons (cst (.int 1)) aNil))) aNil)))) aNil))) (aCons (tupEF (aCons (tupEF (aCons (varF 0) aNil)) (aCons (cst (.str [103, 111, 111, 100])) aNil))) (aCons (tupEF (aCons (tupEF (aCons (varF 0) aNil)) (aCons (cst (.str [103, 111, 111, 100])) aNil))) aNil))))))
 (seq
 (exprS (appEF 4 (tupEF (aCons (tupEF (aCons (tupEF (aCons (cst (.str [109, 117, 108])) (aCons (cst (.int 0)) (aCons (cst (.int 0)) aNil)))) (aCons (tupEF (aCons (cst (.str [105, 110, 118])) (aCons (cst (.int 0)) aNil))) aNil))) (aCons (tupEF (aCons (tupEF (aCons (tupEF (aCons (cst (.int 1)) (aCons (cst (.int 0)) (aCons (o1F (fun _ => dNeg) (.ex (cst (.int 1)))) (aCons (cst (.int 1)) aNil))))) aNil)) (aCons (cst (.str [114, 97, 110, 107])) aNil))) (aCons (tupEF (aCons (tupEF (aCons (tupEF (aCons (cst (.int 1)) (aCons (cst (.int 0)) (aCons (o1F (fun _ => dNeg) (.ex (cst (.int 1)))) (aCons (cst (.int 1)) aNil))))) aNil)) (aCons (cst (.str [103, 111, 111, 100])) aNil))) aNil))))))
 (seq
 (asg (gNameF 5) (tupEF (aCons (tupEF (aCons (cst (.str [109, 117, 108])) (aCons (tupEF (aCons (cst (.str [109, 117, 108])) (aCons (varF 2) (aCons (cst (.int 0)) aNil)))) (aCons (varF 2) aNil)))) (aCons (tupEF (aCons (cst (.str [109, 117, 108])) (aCons (tupEF (aCons (cst (.str [109, 117, 108])) (aCons (varF 2) (aCons (cst (.int 0)) aNil)))) (aCons (tupEF (aCons (cst (.str [105, 110, 118])) (aCons (varF 2) aNil))) aNil)))) aNil))))
 (seq
 (exprS (appEF 4 (tupEF (aCons (varF 5) (aCons (tupEF (aCons (tupEF (aCons (varF 1) (aCons (varF 1) aNil))) (aCons (cst (.str [114, 97, 110, 107])) aNil))) (aCons (tupEF (aCons (tupEF (aCons (varF 1) (aCons (varF 1) aNil))) (aCons (cst (.str [103, 111, 111, 100])) aNil))) aNil))))))
 (seq
 (asg (gNameF 6) (tupEF (aCons (tupEF (aCons (cst (.str [109, 117, 108])) (aCons (varF 2) (aCons (tupEF (aCons (cst (.str [105, 110, 118])) (aCons (cst (.int 0)) aNil))) aNil)))) (aCons (tupEF (aCons (cst (.str [109, 117, 108])) (aCons (tupEF (aCons (cst (.str [105, 110, 118])) (aCons (varF 2) aNil))) (aCons (cst (.int 0)) aNil)))) aNil))))
 (seq
 (exprS (appEF 4 (tupEF (aCons (varF 6) (aCons (tupEF (aCons (tupEF (aCons (varF 0) (aCons (varF 1) aNil))) (aCons (cst (.str [114, 97, 110, 107])) aNil))) (aCons (tupEF (aCons (tupEF (aCons (varF 0) (aCons (varF 1) aNil))) (aCons (cst (.str [103, 111, 111, 100])) aNil))) aNil))))))
 (seq
 (exprS (appEF 4 (tupEF (aCons (o1F (fun _ => dRevA false) (.pk 6)) (aCons (tupEF (aCons (tupEF (aCons (varF 0) (aCons (tupEF (aCons (cst (.int 0)) (aCons (cst (.int 0)) (aCons (cst (.int 1)) (aCons (cst (.int 0)) aNil))))) aNil))) (aCons (cst (.str [103, 111, 111, 100])) aNil))) (aCons (tupEF (aCons (tupEF (aCons (varF 0) (aCons (tupEF (aCons (cst (.int 0)) (aCons (cst (.int 0)) (aCons (cst (.int 1)) (aCons (cst (.int 0)) aNil))))) aNil))) (aCons (cst (.str [114, 97, 110, 107])) aNil))) aNil))))))
 (seq
 (asg (gNameF 7) (tupEF (aCons (tupEF (aCons (cst (.str [109, 117, 108])) (aCons (cst (.int 0)) (aCons (tupEF (aCons (cst (.str [109, 117, 108])) (aCons (cst (.int 1)) (aCons (cst (.int 1)) aNil)))) aNil)))) (aCons (tupEF (aCons (cst (.str [109, 117, 108])) (aCons (tupEF (aCons (cst (.str [105, 110, 118])) (aCons (cst (.int 1)) aNil))) (aCons (cst (.int 0)) aNil)))) aNil))))
 (seq
 (exprS (appEF 4 (tupEF (aCons (varF 7) (aCons (tupEF (aCons (tupEF (aCons (tupEF (aCons (cst (.int 1)) (aCons (cst (.int 0)) (aCons (o1F (fun _ => dNeg) (.ex (cst (.int 1)))) (aCons (cst (.int 1)) aNil))))) aNil)) (aCons (cst (.str [104, 111, 108, 101])) aNil))) (aCons (tupEF (aCons (tupEF (aCons (tupEF (aCons (cst (.int 1)) (aCons (cst (.int 0)) (aCons (o1F (fun _ => dNeg) (.ex (cst (.int 1)))) (aCons (cst (.int 1)) aNil))))) aNil)) (aCons (cst (.str [104, 111, 108, 101])) aNil))) aNil))))))
 (seq
 (asg (gNameF 8) (tupEF (aCons (tupEF (aCons (cst (.str [109, 117, 108])) (aCons (tupEF (aCons (cst (.str [105, 110, 118])) (aCons (cst (.int 0)) aNil))) (aCons (tupEF (aCons (cst (.str [105, 110, 118])) (aCons (cst (.int 1)) aNil))) aNil)))) (aCons (tupEF (aCons (cst (.str [109, 117, 108])) (aCons (tupEF (aCons (cst (.str [105, 110, 118])) (aCons (cst (.int 0)) aNil))) (aCons (tupEF (aCons (cst (.str [105, 110, 118])) (aCons (cst (.int 0)) aNil))) aNil)))) aNil))))
 (ret (o2F (fun _ => dAddF) (.pk 4) (.ex (lstEF (aCons (tupEF (aCons (varF 8) (aCons (tupEF (aCons (tupEF aNil) (aCons (cst (.str [104, 111, 108, 101, 115])) aNil))) (aCons (tupEF (aCons (tupEF aNil) (aCons (cst (.str [104, 111, 108, 101, 115])) aNil))) aNil)))) aNil)))))))))))))))))))))))))))⟩
theorem ff__law_chains_eq : ff__law_chains = f__law_chains := by unfold ff__law_chains f__law_chains; simp only [varF_eq, o1F_eq, o2F_eq, cutEF_eq, aStarF_eq, tupEF_eq, lstEF_eq, gNameF_eq, gTupF_eq, fEnumF_eq, fZipF_eq, dLzipF_eq, fRng1F_eq, fRng2F_eq, forSF_eq, whileSF_eq, compF_eq, callKF_eq, takeF_eq, appEF_eq, extEF_eq, dAddF_eq, dLenF_eq, dIxF_eq]
noncomputable def ff__law_are_limits : Fn := ⟨0, 6,
(seq
 (asg (gTupF [(gNameF 0), (gNameF 1)]) (tupEF (aCons (tupEF (aCons (tupEF (aCons (cst (.str [101])) (aCons (cst (.int 0)) aNil))) (aCons (tupEF (aCons (cst (.str [105, 110, 118])) (aCons (cst (.int 1)) aNil))) (aCons (tupEF (aCons (cst (.str [109, 117, 108])) (aCons (cst (.int 2)) aNil))) aNil)))) (aCons (tupEF (aCons (tupEF (aCons (cst (.str [97])) (aCons (cst (.int 0)) aNil))) (aCons (tupEF (aCons (cst (.str [98])) (aCons (cst (.int 0)) aNil))) (aCons (tupEF (aCons (cst (.str [102])) (aCons (cst (.int 1)) aNil))) (aCons (tupEF (aCons (cst (.str [103])) (aCons (cst (.int 1)) aNil))) (aCons (tupEF (aCons (cst (.str [107])) (aCons (cst (.int 3)) aNil))) aNil)))))) aNil))))
 (seq
 (asg (gNameF 2) (tupEF (aCons (tupEF (aCons (tupEF (aCons (cst (.int 1)) (aCons (cst (.int 0)) (aCons (cst (.int 0)) (aCons (cst (.int 0)) aNil))))) (aCons (cst (.bl true)) aNil))) (aCons (tupEF (aCons (tupEF (aCons (o1F (fun _ => dNeg) (.ex (cst (.int 1)))) (aCons (cst (.int 1)) (aCons (cst (.int 0)) (aCons (cst (.int 0)) aNil))))) (aCons (cst (.bl false)) aNil))) (aCons (tupEF (aCons (tupEF (aCons (cst (.int 0)) (aCons (cst (.int 0)) (aCons (cst (.int 1)) (aCons (cst (.int 0)) aNil))))) (aCons (cst (.bl false)) aNil))) (aCons (tupEF (aCons (tupEF (aCons (cst (.int 0)) (aCons (cst (.int 0)) (aCons (cst (.int 0)) (aCons (cst (.int 1)) aNil))))) (aCons (cst (.bl false)) aNil))) aNil))))))
 (seq
 (asg (gNameF 3) (o2F (fun _ => dAddF) (.ex (o2F (fun _ => dAddF) (.ex (cutEF (.pk 2) none (some (cst (.int 2))))) (.ex (tupEF (aCons (tupEF (aCons (tupEF (aCons (cst (.int 0)) (aCons (cst (.int 0)) (aCons (cst (.int 1)) (aCons (cst (.int 0)) aNil))))) (aCons (cst (.bl true)) aNil))) aNil))))) (.ex (cutEF (.pk 2) (some (cst (.int 3))) none))))
 (seq
 (asg (gNameF 4) (lstEF (aCons (callKF [108, 105, 109, 105, 116, 115, 95, 111, 102] 2 (aCons (varF 0) (aCons (tupEF (aCons (cst (.str [105, 110, 118])) (aCons (cst (.str [109, 117, 108])) (aCons (cst (.str [101])) aNil)))) aNil)) aNil [.inl 0, .inl 1]) (aCons (callKF [108, 105, 109, 105, 116, 115, 95, 111, 102] 0 aNil (aCons (tupEF (aCons (cst (.str [105, 110, 118])) (aCons (cst (.str [101])) (aCons (cst (.str [109, 117, 108])) aNil)))) (aCons (varF 0) aNil)) [.inl 1, .inl 0]) aNil))))
 (seq
 (asg (gNameF 4) (o2F (fun _ => dAddF) (.pk 4) (.ex (lstEF (aCons (callKF [108, 105, 109, 105, 116, 115, 95, 111, 102] 2 (aCons (varF 0) (aCons (tupEF (aCons (cst (.str [109, 117, 108])) (aCons (cst (.str [105, 110, 118])) (aCons (cst (.str [101])) aNil)))) aNil)) aNil [.inl 0, .inl 1]) (aCons (callKF [108, 105, 109, 105, 116, 115, 95, 111, 102] 2 (aCons (varF 0) (aCons (tupEF (aCons (cst (.str [101])) (aCons (cst (.str [105, 110, 118])) (aCons (cst (.str [109, 117, 108])) aNil)))) aNil)) aNil [.inl 0, .inl 1]) aNil))))))
 (seq
 (ifS (tE (o2F (fun _ => dNe) (.ex (o1F (fun _ => dRepr) (.pk 4))) (.ex (o1F (fun _ => dRepr) (.ex (lstEF (aCons (varF 2) (aCons (varF 2) (aCons (varF 3) (aCons (varF 3) aNil)))))))))) (ret (cst (.bl false))) pass)
 (seq
 (asg (gNameF 2) (tupEF (aCons (tupEF (aCons (tupEF (aCons (cst (.int 1)) (aCons (cst (.int 0)) (aCons (cst (.int 0)) (aCons (cst (.int 0)) (aCons (cst (.int 0)) (aCons (cst (.int 0)) aNil))))))) (aCons (cst (.bl true)) aNil))) (aCons (tupEF (aCons (tupEF (aCons (o1F (fun _ => dNeg) (.ex (cst (.int 1)))) (aCons (cst (.int 1)) (aCons (cst (.int 0)) (aCons (cst (.int 0)) (aCons (cst (.int 0)) (aCons (cst (.int 0)) aNil))))))) (aCons (cst (.bl false)) aNil))) (aCons (tupEF (aCons (tupEF (aCons (o1F (fun _ => dNeg) (.ex (cst (.int 1)))) (aCons (cst (.int 0)) (aCons (cst (.int 1)) (aCons (cst (.int 0)) (aCons (cst (.int 0)) (aCons (cst (.int 0)) aNil))))))) (aCons (cst (.bl false)) aNil))) aNil)))))
 (seq
 (asg (gNameF 2) (o2F (fun _ => dAddF) (.pk 2) (.ex (tupEF (aCons (tupEF (aCons (tupEF (aCons (cst (.int 0)) (aCons (cst (.int 0)) (aCons (cst (.int 0)) (aCons (cst (.int 1)) (aCons (cst (.int 0)) (aCons (cst (.int 0)) aNil))))))) (aCons (cst (.bl true)) aNil))) (aCons (tupEF (aCons (tupEF (aCons (cst (.int 0)) (aCons (cst (.int 0)) (aCons (cst (.int 0)) (aCons (cst (.int 0)) (aCons (cst (.int 1)) (aCons (cst (.int 0)) aNil))))))) (aCons (cst (.bl false)) aNil))) (aCons (tupEF (aCons (tupEF (aCons (cst (.int 0)) (aCons (cst (.int 0)) (aCons (cst (.int 0)) (aCons (cst (.int 0)) (aCons (cst (.int 0)) (aCons (cst (.int 1)) aNil))))))) (aCons (cst (.bl false)) aNil))) aNil)))))))
 (seq
 (asg (gNameF 5) (o2F (fun _ => dAddF) (.ex (o2F (fun _ => dAddF) (.ex (cutEF (.pk 2) none (some (cst (.int 3))))) (.ex (tupEF (aCons (tupEF (aCons (tupEF (aCons (cst (.int 0)) (aCons (cst (.int 0)) (aCons (cst (.int 0)) (aCons (cst (.int 1)) (aCons (cst (.int 0)) (aCons (cst (.int 0)) aNil))))))) (aCons (cst (.bl true)) aNil))) (aCons (tupEF (aCons (tupEF (aCons (cst (.int 0)) (aCons (cst (.int 0)) (aCons (cst (.int 0)) (aCons (cst (.int 0)) (aCons (cst (.int 1)) (aCons (cst (.int 0)) aNil))))))) (aCons (cst (.bl true)) aNil))) aNil)))))) (.ex (cutEF (.pk 2) (some (cst (.int 5))) none))))
 (seq
 (asg (gNameF 4) (lstEF (aCons (callKF [108, 105, 109, 105, 116, 115, 95, 111, 102] 2 (aCons (varF 1) (aCons (tupEF (aCons (cst (.str [103])) (aCons (cst (.str [102])) (aCons (cst (.str [97])) (aCons (cst (.str [107])) (aCons (cst (.str [98])) aNil)))))) aNil)) aNil [.inl 0, .inl 1]) (aCons (callKF [108, 105, 109, 105, 116, 115, 95, 111, 102] 2 (aCons (varF 1) (aCons (tupEF (aCons (cst (.str [107])) (aCons (cst (.str [103])) (aCons (cst (.str [102])) (aCons (cst (.str [98])) (aCons (cst (.str [97])) aNil)))))) aNil)) aNil [.inl 0, .inl 1]) aNil))))
 (ret (o2F (fun _ => dEq) (.ex (o1F (fun _ => dRepr) (.pk 4))) (.ex (o1F (fun _ => dRepr) (.ex (lstEF (aCons (varF 2) (aCons (varF 5) aNil))))))))))))))))))⟩
theorem ff__law_are_limits_eq : ff__law_are_limits = f__law_are_limits := by unfold ff__law_are_limits f__law_are_limits; simp only [varF_eq, o1F_eq, o2F_eq, cutEF_eq, aStarF_eq, tupEF_eq, lstEF_eq, gNameF_eq, gTupF_eq, fEnumF_eq, fZipF_eq, dLzipF_eq, fRng1F_eq, fRng2F_eq, forSF_eq, whileSF_eq, compF_eq, callKF_eq, takeF_eq, appEF_eq, extEF_eq, dAddF_eq, dLenF_eq, dIxF_eq]
noncomputable def ff__law_led : Fn := ⟨2, 3,
(seq
 (ifS (tE (o1F (isTy .int) (.pk 1))) (ret (o2F dIxF (.pk 0) (.pk 1))) pass)
 (ret (o2F (fun _ => dAddF) (.ex (tupEF (aCons (o2F dIxF (.pk 1) (.ex (cst (.int 0)))) aNil))) (.ex (o1F (fun _ => dTup) (.ex (compF (iVal (cutEF (.pk 1) (some (cst (.int 1))) none)) (gNameF 2) tYes (callKF [95, 108, 97, 119, 95, 108, 101, 100] 2 (aCons (varF 0) (aCons (varF 2) aNil)) aNil [.inl 0, .inl 1]) [2])))))))⟩
theorem ff__law_led_eq : ff__law_led = f__law_led := by unfold ff__law_led f__law_led; simp only [varF_eq, o1F_eq, o2F_eq, cutEF_eq, aStarF_eq, tupEF_eq, lstEF_eq, gNameF_eq, gTupF_eq, fEnumF_eq, fZipF_eq, dLzipF_eq, fRng1F_eq, fRng2F_eq, forSF_eq, whileSF_eq, compF_eq, callKF_eq, takeF_eq, appEF_eq, extEF_eq, dAddF_eq, dLenF_eq, dIxF_eq]
noncomputable def ff__law_is_right : Fn := ⟨4, 12,
(seq
 (parS [4, 5] [(true, (lstEF (aCons (cst (.int 0)) (aCons (cst (.int 1)) (aCons (cst (.int 2)) (aCons (cst (.int 5)) (aCons (cst (.int 10)) (aCons (o2F (fun _ => dPow) (.ex (cst (.int 10))) (.ex (cst (.int 59)))) aNil)))))))), (true, newK)])
 (seq
 (forSF (iArgs fRng1F (aCons (cst (.int 3)) aNil)) (gNameF 6) (putS 5 (varF 6) (popAtE 4 (callKF [95, 108, 97, 119, 95, 100, 114, 97, 119] 2 (aCons (varF 0) (aCons (o1F dLenF (.pk 4)) aNil)) aNil [.inl 0, .inl 1]))))
 (seq
 (asg (gNameF 7) (tupEF (aCons (callKF [95, 108, 97, 119, 95, 108, 101, 100] 2 (aCons (varF 5) (aCons (o2F dIxF (.pk 2) (.ex (cst (.int 0)))) aNil)) aNil [.inl 0, .inl 1]) (aCons (callKF [95, 108, 97, 119, 95, 108, 101, 100] 2 (aCons (varF 5) (aCons (o2F dIxF (.pk 2) (.ex (cst (.int 1)))) aNil)) aNil [.inl 0, .inl 1]) aNil))))
 (seq
 (asg (gNameF 8) (o1F (fun _ => dRepr) (.ex (lstEF (aCons (varF 2) (aCons (varF 7) aNil))))))
 (seq
 (forSF (iArgs fZipF (aCons (lstEF (aCons (tupEF (aCons (cst (.str [105, 110, 118])) (aCons (cst (.str [109, 117, 108])) (aCons (cst (.str [101])) aNil)))) (aCons (tupEF (aCons (cst (.str [101])) (aCons (cst (.str [109, 117, 108])) (aCons (cst (.str [105, 110, 118])) aNil)))) aNil))) (aCons (varF 3) aNil))) (gTupF [(gNameF 9), (gNameF 10)]) (seq
 (asg (gNameF 11) (lstEF (aCons (callKF [99, 104, 97, 105, 110, 95, 111, 102] 3 (aCons (varF 1) (aCons (varF 9) (aCons (varF 2) aNil))) aNil [.inl 0, .inl 1, .inl 2]) (aCons (callKF [99, 104, 97, 105, 110, 95, 111, 102] 0 aNil (aCons (varF 7) (aCons (varF 9) (aCons (varF 1) aNil))) [.inl 2, .inl 1, .inl 0]) (aCons (callKF [99, 104, 97, 105, 110, 95, 111, 102] 3 (aCons (varF 1) (aCons (varF 9) (aCons (varF 2) aNil))) aNil [.inl 0, .inl 1, .inl 2]) aNil)))))
 (ifS (tE (o2F (fun _ => dNe) (.ex (o1F (fun _ => dRepr) (.pk 11))) (.ex (o1F (fun _ => dRepr) (.ex (o2F (fun _ => dMul) (.ex (lstEF (aCons (varF 10) aNil))) (.ex (cst (.int 3))))))))) (ret (cst (.bl false))) pass)))
 (ret (o2F (fun _ => dEq) (.ex (o1F (fun _ => dRepr) (.ex (lstEF (aCons (varF 2) (aCons (varF 7) aNil)))))) (.pk 8))))))))⟩
theorem ff__law_is_right_eq : ff__law_is_right = f__law_is_right := by unfold ff__law_is_right f__law_is_right; simp only [varF_eq, o1F_eq, o2F_eq, cutEF_eq, aStarF_eq, tupEF_eq, lstEF_eq, gNameF_eq, gTupF_eq, fEnumF_eq, fZipF_eq, dLzipF_eq, fRng1F_eq, fRng2F_eq, forSF_eq, whileSF_eq, compF_eq, callKF_eq, takeF_eq, appEF_eq, extEF_eq, dAddF_eq, dLenF_eq, dIxF_eq]
noncomputable def ff_law : Fn := ⟨1, 10,
(seq
 (parS [1, 2] [(false, (callKF [95, 108, 97, 119, 95, 102, 101, 101, 100] 1 (aCons (varF 0) aNil) aNil [.inl 0])), (false, (tupEF (aCons (tupEF (aCons (cst (.str [101])) (aCons (cst (.int 0)) aNil))) (aCons (tupEF (aCons (cst (.str [105, 110, 118])) (aCons (cst (.int 1)) aNil))) (aCons (tupEF (aCons (cst (.str [109, 117, 108])) (aCons (cst (.int 2)) aNil))) aNil)))))])
 (seq
 (ifS (tNot (tE (callKF [95, 108, 97, 119, 95, 97, 114, 101, 95, 108, 105, 109, 105, 116, 115] 0 aNil aNil []))) (ret (cst (.bl false))) pass)
 (seq
 (forSF (iVal (callKF [95, 108, 97, 119, 95, 99, 104, 97, 105, 110, 115] 0 aNil aNil [])) (gTupF [(gNameF 3), (gNameF 4), (gNameF 5)]) (ifS (tNot (tE (callKF [95, 108, 97, 119, 95, 105, 115, 95, 114, 105, 103, 104, 116] 4 (aCons (varF 1) (aCons (varF 2) (aCons (varF 3) (aCons (lstEF (aCons (varF 4) (aCons (varF 5) aNil))) aNil)))) aNil [.inl 0, .inl 1, .inl 2, .inl 3]))) (ret (cst (.bl false))) pass))
 (seq
 (asg (gNameF 6) (tupEF (aCons (tupEF (aCons (cst (.str [97])) (aCons (cst (.int 0)) aNil))) (aCons (tupEF (aCons (cst (.str [102])) (aCons (cst (.int 1)) aNil))) (aCons (tupEF (aCons (cst (.str [107])) (aCons (cst (.int 3)) aNil))) aNil)))))
 (seq
 (asg (gTupF [(gNameF 7), (gNameF 8)]) (tupEF (aCons (tupEF (aCons (cst (.str [107])) (aCons (cst (.int 0)) (aCons (tupEF (aCons (cst (.str [102])) (aCons (cst (.int 1)) aNil))) (aCons (tupEF (aCons (cst (.str [97])) aNil)) aNil))))) (aCons (tupEF (aCons (cst (.str [107])) (aCons (cst (.int 0)) (aCons (tupEF (aCons (cst (.str [102])) (aCons (tupEF (aCons (cst (.str [97])) aNil)) aNil))) (aCons (cst (.int 1)) aNil))))) aNil))))
 (seq
 (asg (gNameF 9) (lstEF (aCons (callKF [99, 104, 97, 105, 110, 95, 111, 102] 3 (aCons (varF 6) (aCons (tupEF (aCons (cst (.str [102])) (aCons (cst (.str [107])) (aCons (cst (.str [97])) aNil)))) (aCons (tupEF (aCons (varF 7) (aCons (varF 8) aNil))) aNil))) aNil [.inl 0, .inl 1, .inl 2]) (aCons (callKF [99, 104, 97, 105, 110, 95, 111, 102] 3 (aCons (varF 6) (aCons (tupEF (aCons (cst (.str [102])) (aCons (cst (.str [107])) (aCons (cst (.str [97])) aNil)))) (aCons (tupEF (aCons (varF 8) (aCons (varF 7) aNil))) aNil))) aNil [.inl 0, .inl 1, .inl 2]) aNil))))
 (ret (o2F (fun _ => dEq) (.ex (o1F (fun _ => dRepr) (.pk 9))) (.ex (o1F (fun _ => dRepr) (.ex (lstEF (aCons (tupEF (aCons (tupEF (aCons (tupEF (aCons (cst (.int 0)) (aCons (cst (.int 0)) (aCons (cst (.int 0)) (aCons (cst (.int 0)) aNil))))) (aCons (tupEF (aCons (cst (.int 1)) (aCons (o1F (fun _ => dNeg) (.ex (cst (.int 1)))) (aCons (cst (.int 0)) (aCons (cst (.int 0)) aNil))))) aNil))) (aCons (cst (.str [104, 111, 108, 101])) aNil))) (aCons (tupEF (aCons (tupEF (aCons (tupEF (aCons (cst (.int 0)) (aCons (cst (.int 0)) (aCons (cst (.int 0)) (aCons (cst (.int 0)) aNil))))) aNil)) (aCons (cst (.str [104, 111, 108, 101, 115])) aNil))) aNil))))))))))))))⟩
theorem ff_law_eq : ff_law = f_law := by unfold ff_law f_law; simp only [varF_eq, o1F_eq, o2F_eq, cutEF_eq, aStarF_eq, tupEF_eq, lstEF_eq, gNameF_eq, gTupF_eq, fEnumF_eq, fZipF_eq, dLzipF_eq, fRng1F_eq, fRng2F_eq, forSF_eq, whileSF_eq, compF_eq, callKF_eq, takeF_eq, appEF_eq, extEF_eq, dAddF_eq, dLenF_eq, dIxF_eq]
noncomputable def tabFL : List (Nm × Fn) := [([105, 115, 95, 105, 110, 116, 101, 103, 101, 114], ff_is_integer),
  ([105, 115, 95, 110, 117, 109, 98, 101, 114], ff_is_number),
  ([105, 115, 95, 110, 97, 109, 101], ff_is_name),
  ([105, 115, 95, 112, 97, 105, 114], ff_is_pair),
  ([105, 115, 95, 115, 105, 103, 110], ff_is_sign),
  ([105, 115, 95, 104, 111, 108, 101], ff_is_hole),
  ([112, 108, 97, 99, 101, 115, 95, 98, 121], ff_places_by),
  ([114, 111, 119, 115, 95, 111, 102], ff_rows_of),
  ([116, 101, 114, 109, 115, 95, 105, 110], ff_terms_in),
  ([104, 111, 108, 101, 115, 95, 111, 102], ff_holes_of),
  ([99, 111, 117, 110, 116, 115, 95, 98, 121], ff_counts_by),
  ([117, 110, 105, 116, 95, 97, 116], ff_unit_at),
  ([108, 105, 109, 105, 116, 115, 95, 98, 121], ff_limits_by),
  ([102, 111, 114, 109, 95, 98, 121], ff_form_by),
  ([104, 97, 115, 95, 109, 111, 114, 101, 95, 104, 111, 108, 101, 115], ff_has_more_holes),
  ([102, 105, 114, 115, 116, 95, 101, 110, 100], ff_first_end),
  ([115, 104, 97, 112, 101, 95, 98, 121], ff_shape_by),
  ([101, 110, 100, 95, 117, 110, 100, 101, 114], ff_end_under),
  ([99, 104, 97, 105, 110, 95, 98, 121], ff_chain_by),
  ([105, 115, 95, 114, 97, 110, 107, 95, 111, 102], ff_is_rank_of),
  ([98, 111, 111, 107, 95, 102, 97, 117, 108, 116], ff_book_fault),
  ([105, 115, 95, 98, 111, 111, 107], ff_is_book),
  ([119, 97, 110, 116], ff_want),
  ([119, 97, 110, 116, 95, 98, 111, 111, 107], ff_want_book),
  ([105, 115, 95, 104, 101, 97, 100, 101, 100], ff_is_headed),
  ([116, 101, 114, 109, 95, 102, 97, 117, 108, 116], ff_term_fault),
  ([105, 115, 95, 116, 101, 114, 109, 95, 98, 121], ff_is_term_by),
  ([105, 115, 95, 114, 117, 108, 101, 95, 98, 121], ff_is_rule_by),
  ([105, 115, 95, 114, 117, 108, 101], ff_is_rule),
  ([119, 97, 110, 116, 95, 114, 117, 108, 101], ff_want_rule),
  ([119, 97, 110, 116, 95, 114, 97, 110, 107], ff_want_rank),
  ([108, 105, 109, 105, 116, 115, 95, 111, 102], ff_limits_of),
  ([99, 104, 97, 105, 110, 95, 111, 102], ff_chain_of),
  ([95, 108, 97, 119, 95, 102, 101, 101, 100], ff__law_feed),
  ([95, 108, 97, 119, 95, 100, 114, 97, 119], ff__law_draw),
  ([95, 108, 97, 119, 95, 99, 104, 97, 105, 110, 115], ff__law_chains),
  ([95, 108, 97, 119, 95, 97, 114, 101, 95, 108, 105, 109, 105, 116, 115], ff__law_are_limits),
  ([95, 108, 97, 119, 95, 108, 101, 100], ff__law_led),
  ([95, 108, 97, 119, 95, 105, 115, 95, 114, 105, 103, 104, 116], ff__law_is_right),
  ([108, 97, 119], ff_law)]
noncomputable def tabF (x : Nm) : Option Fn := lookF x tabFL
theorem tabF_eq : tabF = tab := by
  funext x
  unfold tabF tab
  rw [lookF_eq]
  congr 1
  unfold tabFL tabL
  simp only [ff_is_integer_eq, ff_is_number_eq, ff_is_name_eq, ff_is_pair_eq, ff_is_sign_eq, ff_is_hole_eq, ff_places_by_eq, ff_rows_of_eq, ff_terms_in_eq, ff_holes_of_eq, ff_counts_by_eq, ff_unit_at_eq, ff_limits_by_eq, ff_form_by_eq, ff_has_more_holes_eq, ff_first_end_eq, ff_shape_by_eq, ff_end_under_eq, ff_chain_by_eq, ff_is_rank_of_eq, ff_book_fault_eq, ff_is_book_eq, ff_want_eq, ff_want_book_eq, ff_is_headed_eq, ff_term_fault_eq, ff_is_term_by_eq, ff_is_rule_by_eq, ff_is_rule_eq, ff_want_rule_eq, ff_want_rank_eq, ff_limits_of_eq, ff_chain_of_eq, ff__law_feed_eq, ff__law_draw_eq, ff__law_chains_eq, ff__law_are_limits_eq, ff__law_led_eq, ff__law_is_right_eq, ff_law_eq]
theorem run_F (n : Nat) : callF tabF n = callN tab n := by rw [callF_eq, tabF_eq]
end Cy

set_option maxRecDepth 1000000
set_option maxHeartbeats 4000000
set_option linter.all false
namespace Cy
def fd (cells : List Int) (spot left drawn : Int) : List (K × D) := [(.s [99, 101, 108, 108, 115], .lst (cells.map .int)), (.s [97, 116], .int spot), (.s [108, 101, 102, 116], .int left), (.s [99, 111, 117, 110, 116], .int drawn)]
/-- a feed -/
def Feed (h : List Ob) (n : Int) : Prop := ∃ (cells : List Int) (spot left drawn : Int), h = [.dic (fd cells spot left drawn)] ∧ cells.length ≤ 63 ∧ 0 ≤ spot ∧ 0 ≤ drawn ∧ drawn ≤ n
theorem feed_of {cells : List Int} {spot left drawn n : Int} (hc : cells.length ≤ 63) (hs : 0 ≤ spot) (h0 : 0 ≤ drawn) (hd : drawn ≤ n) {o : List (K × D)} (e : o = fd cells spot left drawn) : Feed [.dic o] n := ⟨cells, spot, left, drawn, by rw [e], hc, hs, h0, hd⟩
def DrawQ (many n : Int) (d : D) (h : List Ob) : Prop := (∃ r, d = .int r ∧ 0 ≤ r ∧ r < many) ∧ Feed h n
theorem draw_ok (g : G) (h : List Ob) (many n : Int) (hf : Feed h n) (hm : 0 < many) (hm2 : many ≤ 2 ^ 62) (hn : n ≤ 2 ^ 60) :
  (runF f__law_draw g [.ref 0, .int many] h).Wp (DrawQ many (n + 1)) fun _ _ => False := by
  obtain ⟨cells, spot, left, drawn, rfl, hc, hs, hd0, hd⟩ := hf
  have hm3 : fitI 9000 many = true := fit_small (by omega) (by omega) (by decide)
  have L1 : (4 < lim) = True := by simp [lim]
  have L2 : ∀ (j : K) (v : D), ((dput (fd cells spot left drawn) j v).length < lim) = True := fun j v => by
    have := dput_len (fd cells spot left drawn) j v
    have e : (fd cells spot left drawn).length = 4 := rfl
    simp only [lim, eq_iff_iff, iff_true]; omega
  have L3 : ∀ (j j2 : K) (v v2 : D), ((dput (dput (fd cells spot left drawn) j v) j2 v2).length < lim) = True := fun j j2 v v2 => by
    have := dput_len (fd cells spot left drawn) j v
    have := dput_len (dput (fd cells spot left drawn) j v) j2 v2
    have e : (fd cells spot left drawn).length = 4 := rfl
    simp only [lim, eq_iff_iff, iff_true]; omega
  have key : ∀ x : Int, 0 ≤ x % many ∧ x % many < many := fun x => ⟨Int.emod_nonneg _ (by omega), Int.emod_lt_of_pos _ hm⟩
  unfold fd at L2 L3
  by_cases hl : 0 < left
  · simp only [↓w_run1, ↓gcW_same1, ↓gcW_11, noR_int, noR_str, noR_bl, noR_non, ↓gcW_le1, ↓start, ↓w_seq1, ↓w_putS1, ↓w_o11, ↓w_o21, ↓w_get1, ↓w_ex1, ↓w_pk1, ↓w_cst1, ↓w_var1, ↓varW_val1, ↓varW_own1, ↓slW_zero1, ↓slW_succ1, ↓liveW_val1, ↓liveW_own1, ↓rdW_ex1, ↓rdW_pk1, ↓vlW_val1, ↓vlW_own1, ↓p_ix_ref1, ↓obW_zero1, ↓obW_succ1, ↓ixO_dics1, ↓ixO_dici1, ↓ixO_lst1, ↓dg_cons1, ↓dg_dput1, ↓ptW_eq1, ↓ptS_own1, ↓ptS_ref1, ↓ptO_dics1, ↓ptD_dics1, ↓ptD_dici1, ↓stO_zero1, ↓stO_succ1, ↓stW_zero1, ↓stW_succ1, ↓p_add1, ↓p_sub1, ↓p_mul1, ↓p_fdiv1, ↓p_mod1, ↓p_pow1, ↓p_neg1, ↓p_lt1, ↓p_le1, ↓p_gt1, ↓p_ge1, ↓p_int1, ↓p_intb1, ↓p_isN1, ↓p_isN_int1, ↓p_isN_tup1, ↓p_isN_str1, ↓p_isN_lst1, ↓p_notN1, ↓p_notN_int1, ↓p_notN_tup1, ↓p_notN_str1, ↓p_notN_lst1, ↓p_len_lst1, ↓p_len_tup1, ↓p_len_fro1, ↓p_ix_lst1, ↓p_ix_tup1, ↓p_ix_dics1, ↓p_ix_dici1, ↓w_and1, ↓w_or1, ↓w_not1, ↓w_ite1, ↓w_chain1, ↓blW_bl1, ↓intW_int1, ↓w_cut1, ↓partW_none1, ↓partW_some1, ↓w_tup1, ↓w_lst1, ↓w_tE1, ↓w_tNot1, ↓w_tAnd1, ↓w_tOr1, ↓w_tYes1, ↓w_aNil1, ↓w_aCons1, ↓w_aStar1, ↓w_iVal1, ↓w_iArgs1, ↓tg_name1, ↓tgs_nil1, ↓tgs_cons1, ↓tg_tup1, ↓tg_lst1, ↓w_pass1, ↓w_brk1, ↓w_cont1, ↓w_ret1, ↓w_asg1, ↓w_take1, ↓w_parS1, ↓w_rowS_nil1, ↓w_rowS_cons1, ↓ptAll_nil1, ↓ptAll_cons1, ↓w_expr1, ↓w_if1, ↓w_for1, ↓w_forL_nil1, ↓w_forL_cons1, ↓w_augI1, ↓w_call1, ↓optW_some1, le_lim, lt_lim, ↓q_at0, ↓q_at1, ↓q_at2, ↓arr_nil, ↓arr_inl, ↓arr_inr, List.getElem?_cons_zero, List.getElem?_cons_succ, ↓q_isTy, ↓q_len_str, ↓q_walk_str, ↓q_in_chr, ↓q_all, ↓q_any, ↓q_eq_int, ↓w_app, ↓w_ext, ↓lstW_eq, ↓lsv_own, ↓ext_lst, ↓w_ref, ↓refW_dic, ↓refW_lst, ↓w_dic, ↓w_pairs_nil, ↓w_pairs_cons, ↓q_cut_lst, ↓q_cut_tup, ↓q_add_lst, ↓q_add_tup, ↓q_walk_lst, ↓q_walk_tup, ↓key_str, ↓key_int, List.foldl_cons, List.foldl_nil, ↓reduceIte, ownable, List.set_cons_succ, List.set_cons_zero, List.getD_cons_zero, List.getD_cons_succ, List.map_cons, List.map_nil, List.replicate, List.cons_append, List.nil_append, List.length_cons, List.length_nil, decide_eq_true_eq, K.s.injEq, K.i.injEq, List.cons.injEq, ↓q_rng1, ↓q_repr, ↓q_eq_rep, ↓q_ne_rep, abs_ten, List.length_map, List.length_append, ↓q_addL_lst, ↓q_mul_one, Nat.reducePow, Nat.reduceEqDiff, Nat.reduceAdd, Nat.reduceSub, Nat.reduceLT, Nat.reduceLeDiff, Int.reduceLT, Int.reduceLE, reduceCtorEq, false_and, and_false, and_true, true_and, Bool.not_true, Bool.not_false, Bool.false_eq_true, f__law_draw, fd, hl, hm, hm3, L1, L2, L3]
    exact ⟨⟨_, rfl, key _⟩, feed_of hc hs (by omega) (by omega) rfl⟩
  · have f1 : fitI 400000 93732 = true := fit_small (by decide) (by decide) (by decide)
    have f2 : fitI 400000 7170042 = true := fit_small (by decide) (by decide) (by decide)
    have f3 : fitI 400000 499 = true := fit_small (by decide) (by decide) (by decide)
    have f4 : fitI 9000 16 = true := fit_small (by decide) (by decide) (by decide)
    have f5 : fitI 400000 (drawn + 1) = true := fit_small (by omega) (by omega) (by decide)
    have m1 : ∀ x : Int, fitI 400000 (x % 2146905751) = true := fun x => fit_mod x (by decide) (by decide) (by decide)
    have m2 : ∀ x : Int, fitI 400000 (x % 2146905619) = true := fun x => fit_mod x (by decide) (by decide) (by decide)
    have hi : Int.natAbs 10 < 2 ^ 64 := by decide
    cases hcl : cells with
    | nil =>
      rw [← hcl]
      have q1 : ∀ P, OptW (dNe (.lst (cells.map .int)) (.lst [])) P = P (.bl false) := optW_of (by rw [hcl]; rfl)
      simp only [↓w_run1, ↓gcW_same1, ↓gcW_11, noR_int, noR_str, noR_bl, noR_non, ↓gcW_le1, ↓start, ↓w_seq1, ↓w_putS1, ↓w_o11, ↓w_o21, ↓w_get1, ↓w_ex1, ↓w_pk1, ↓w_cst1, ↓w_var1, ↓varW_val1, ↓varW_own1, ↓slW_zero1, ↓slW_succ1, ↓liveW_val1, ↓liveW_own1, ↓rdW_ex1, ↓rdW_pk1, ↓vlW_val1, ↓vlW_own1, ↓p_ix_ref1, ↓obW_zero1, ↓obW_succ1, ↓ixO_dics1, ↓ixO_dici1, ↓ixO_lst1, ↓dg_cons1, ↓dg_dput1, ↓ptW_eq1, ↓ptS_own1, ↓ptS_ref1, ↓ptO_dics1, ↓ptD_dics1, ↓ptD_dici1, ↓stO_zero1, ↓stO_succ1, ↓stW_zero1, ↓stW_succ1, ↓p_add1, ↓p_sub1, ↓p_mul1, ↓p_fdiv1, ↓p_mod1, ↓p_pow1, ↓p_neg1, ↓p_lt1, ↓p_le1, ↓p_gt1, ↓p_ge1, ↓p_int1, ↓p_intb1, ↓p_isN1, ↓p_isN_int1, ↓p_isN_tup1, ↓p_isN_str1, ↓p_isN_lst1, ↓p_notN1, ↓p_notN_int1, ↓p_notN_tup1, ↓p_notN_str1, ↓p_notN_lst1, ↓p_len_lst1, ↓p_len_tup1, ↓p_len_fro1, ↓p_ix_lst1, ↓p_ix_tup1, ↓p_ix_dics1, ↓p_ix_dici1, ↓w_and1, ↓w_or1, ↓w_not1, ↓w_ite1, ↓w_chain1, ↓blW_bl1, ↓intW_int1, ↓w_cut1, ↓partW_none1, ↓partW_some1, ↓w_tup1, ↓w_lst1, ↓w_tE1, ↓w_tNot1, ↓w_tAnd1, ↓w_tOr1, ↓w_tYes1, ↓w_aNil1, ↓w_aCons1, ↓w_aStar1, ↓w_iVal1, ↓w_iArgs1, ↓tg_name1, ↓tgs_nil1, ↓tgs_cons1, ↓tg_tup1, ↓tg_lst1, ↓w_pass1, ↓w_brk1, ↓w_cont1, ↓w_ret1, ↓w_asg1, ↓w_take1, ↓w_parS1, ↓w_rowS_nil1, ↓w_rowS_cons1, ↓ptAll_nil1, ↓ptAll_cons1, ↓w_expr1, ↓w_if1, ↓w_for1, ↓w_forL_nil1, ↓w_forL_cons1, ↓w_augI1, ↓w_call1, ↓optW_some1, le_lim, lt_lim, ↓q_at0, ↓q_at1, ↓q_at2, ↓arr_nil, ↓arr_inl, ↓arr_inr, List.getElem?_cons_zero, List.getElem?_cons_succ, ↓q_isTy, ↓q_len_str, ↓q_walk_str, ↓q_in_chr, ↓q_all, ↓q_any, ↓q_eq_int, ↓w_app, ↓w_ext, ↓lstW_eq, ↓lsv_own, ↓ext_lst, ↓w_ref, ↓refW_dic, ↓refW_lst, ↓w_dic, ↓w_pairs_nil, ↓w_pairs_cons, ↓q_cut_lst, ↓q_cut_tup, ↓q_add_lst, ↓q_add_tup, ↓q_walk_lst, ↓q_walk_tup, ↓key_str, ↓key_int, List.foldl_cons, List.foldl_nil, ↓reduceIte, ownable, List.set_cons_succ, List.set_cons_zero, List.getD_cons_zero, List.getD_cons_succ, List.map_cons, List.map_nil, List.replicate, List.cons_append, List.nil_append, List.length_cons, List.length_nil, decide_eq_true_eq, K.s.injEq, K.i.injEq, List.cons.injEq, ↓q_rng1, ↓q_repr, ↓q_eq_rep, ↓q_ne_rep, abs_ten, List.length_map, List.length_append, ↓q_addL_lst, ↓q_mul_one, Nat.reducePow, Nat.reduceEqDiff, Nat.reduceAdd, Nat.reduceSub, Nat.reduceLT, Nat.reduceLeDiff, Int.reduceLT, Int.reduceLE, reduceCtorEq, false_and, and_false, and_true, true_and, Bool.not_true, Bool.not_false, Bool.false_eq_true, f__law_draw, fd, hl, hm, hm3, L1, L2, L3, ↓q1, hi, f1, f2, f3, f4, f5, m1, m2, Nat.zero_le]
      repeat' split
      all_goals exact ⟨⟨_, rfl, key _⟩, feed_of hc (by omega) (by omega) (by omega) rfl⟩
    | cons c cs =>
      rw [← hcl]
      have hp : (0 : Int) < (cells.map D.int).length := by rw [hcl]; simp
      have hp2 : (0 : Int) < cells.length := by rw [hcl]; simp only [List.length_cons]; omega
      obtain ⟨head, hh, _⟩ := atI_ints (c := cells) (i := spot % (cells.map D.int).length) (Int.emod_nonneg _ (by omega)) (by have := Int.emod_lt_of_pos spot hp; rw [List.length_map] at this ⊢; exact this)
      have q1 : ∀ P, OptW (dNe (.lst (cells.map .int)) (.lst [])) P = P (.bl true) := optW_of (by rw [hcl]; simp [dNe, eq?, plain, pl, eqv, eqvL])
      have q2 := optW_of hh
      simp only [↓w_run1, ↓gcW_same1, ↓gcW_11, noR_int, noR_str, noR_bl, noR_non, ↓gcW_le1, ↓start, ↓w_seq1, ↓w_putS1, ↓w_o11, ↓w_o21, ↓w_get1, ↓w_ex1, ↓w_pk1, ↓w_cst1, ↓w_var1, ↓varW_val1, ↓varW_own1, ↓slW_zero1, ↓slW_succ1, ↓liveW_val1, ↓liveW_own1, ↓rdW_ex1, ↓rdW_pk1, ↓vlW_val1, ↓vlW_own1, ↓p_ix_ref1, ↓obW_zero1, ↓obW_succ1, ↓ixO_dics1, ↓ixO_dici1, ↓ixO_lst1, ↓dg_cons1, ↓dg_dput1, ↓ptW_eq1, ↓ptS_own1, ↓ptS_ref1, ↓ptO_dics1, ↓ptD_dics1, ↓ptD_dici1, ↓stO_zero1, ↓stO_succ1, ↓stW_zero1, ↓stW_succ1, ↓p_add1, ↓p_sub1, ↓p_mul1, ↓p_fdiv1, ↓p_mod1, ↓p_pow1, ↓p_neg1, ↓p_lt1, ↓p_le1, ↓p_gt1, ↓p_ge1, ↓p_int1, ↓p_intb1, ↓p_isN1, ↓p_isN_int1, ↓p_isN_tup1, ↓p_isN_str1, ↓p_isN_lst1, ↓p_notN1, ↓p_notN_int1, ↓p_notN_tup1, ↓p_notN_str1, ↓p_notN_lst1, ↓p_len_lst1, ↓p_len_tup1, ↓p_len_fro1, ↓p_ix_lst1, ↓p_ix_tup1, ↓p_ix_dics1, ↓p_ix_dici1, ↓w_and1, ↓w_or1, ↓w_not1, ↓w_ite1, ↓w_chain1, ↓blW_bl1, ↓intW_int1, ↓w_cut1, ↓partW_none1, ↓partW_some1, ↓w_tup1, ↓w_lst1, ↓w_tE1, ↓w_tNot1, ↓w_tAnd1, ↓w_tOr1, ↓w_tYes1, ↓w_aNil1, ↓w_aCons1, ↓w_aStar1, ↓w_iVal1, ↓w_iArgs1, ↓tg_name1, ↓tgs_nil1, ↓tgs_cons1, ↓tg_tup1, ↓tg_lst1, ↓w_pass1, ↓w_brk1, ↓w_cont1, ↓w_ret1, ↓w_asg1, ↓w_take1, ↓w_parS1, ↓w_rowS_nil1, ↓w_rowS_cons1, ↓ptAll_nil1, ↓ptAll_cons1, ↓w_expr1, ↓w_if1, ↓w_for1, ↓w_forL_nil1, ↓w_forL_cons1, ↓w_augI1, ↓w_call1, ↓optW_some1, le_lim, lt_lim, ↓q_at0, ↓q_at1, ↓q_at2, ↓arr_nil, ↓arr_inl, ↓arr_inr, List.getElem?_cons_zero, List.getElem?_cons_succ, ↓q_isTy, ↓q_len_str, ↓q_walk_str, ↓q_in_chr, ↓q_all, ↓q_any, ↓q_eq_int, ↓w_app, ↓w_ext, ↓lstW_eq, ↓lsv_own, ↓ext_lst, ↓w_ref, ↓refW_dic, ↓refW_lst, ↓w_dic, ↓w_pairs_nil, ↓w_pairs_cons, ↓q_cut_lst, ↓q_cut_tup, ↓q_add_lst, ↓q_add_tup, ↓q_walk_lst, ↓q_walk_tup, ↓key_str, ↓key_int, List.foldl_cons, List.foldl_nil, ↓reduceIte, ownable, List.set_cons_succ, List.set_cons_zero, List.getD_cons_zero, List.getD_cons_succ, List.map_cons, List.map_nil, List.replicate, List.cons_append, List.nil_append, List.length_cons, List.length_nil, decide_eq_true_eq, K.s.injEq, K.i.injEq, List.cons.injEq, ↓q_rng1, ↓q_repr, ↓q_eq_rep, ↓q_ne_rep, abs_ten, List.length_map, List.length_append, ↓q_addL_lst, ↓q_mul_one, Nat.reducePow, Nat.reduceEqDiff, Nat.reduceAdd, Nat.reduceSub, Nat.reduceLT, Nat.reduceLeDiff, Int.reduceLT, Int.reduceLE, reduceCtorEq, false_and, and_false, and_true, true_and, Bool.not_true, Bool.not_false, Bool.false_eq_true, f__law_draw, fd, hl, hm, hm3, L1, L2, L3, ↓q1, ↓q2, hp, hp2, hi, f1, f2, f3, f4, f5, m1, m2, Nat.zero_le]
      repeat' split
      all_goals exact ⟨⟨_, rfl, key _⟩, feed_of hc (by omega) (by omega) (by omega) rfl⟩
end Cy

set_option Elab.async false
set_option maxRecDepth 1000000
set_option maxHeartbeats 400000
set_option linter.all false
namespace Cy
def scriptD (ns : List Int) : D := .fro (ns.map D.int)
abbrev nmF : Nm := [95, 108, 97, 119, 95, 102, 101, 101, 100]
abbrev nmD : Nm := [95, 108, 97, 119, 95, 100, 114, 97, 119]
theorem cut_script {ns : List Int} {m : Nat} (hl : ns.length ≤ 63) (hm : 63 ≤ m) : cut (ns.map D.int) none (some (m : Int)) = ns.map D.int := by
  unfold cut sIx
  simp only [List.drop_zero, Nat.sub_zero]
  rw [if_neg (by omega), List.take_of_length_le (by simp only [List.length_map]; omega)]
theorem feed_ok (k : Nat) (ns : List Int) (hl : ns.length ≤ 63) : (runF f__law_feed (callN tab k) [scriptD ns] []).Wp (fun d h => d = .ref 0 ∧ Feed h 0) fun _ _ => False := by
  have q1 : ∀ P, OptW (dCut (.fro (ns.map D.int)) none (some 63)) P = P (.lst (ns.map D.int)) := optW_of (by show some (D.lst (cut _ _ _)) = _; rw [show (63 : Int) = ((63 : Nat) : Int) from rfl, cut_script hl (by decide)])
  have q2 : ∀ P, OptW (dLst (.lst (ns.map D.int))) P = P (.lst (ns.map D.int)) := optW_of rfl
  simp (disch := first | assumption | omega) only [↓w_run1, ↓gcW_same1, ↓gcW_11, noR_int, noR_str, noR_bl, noR_non, ↓gcW_le1, ↓start, ↓w_seq1, ↓w_putS1, ↓w_o11, ↓w_o21, ↓w_get1, ↓w_ex1, ↓w_pk1, ↓w_cst1, ↓w_var1, ↓varW_val1, ↓varW_own1, ↓slW_zero1, ↓slW_succ1, ↓liveW_val1, ↓liveW_own1, ↓rdW_ex1, ↓rdW_pk1, ↓vlW_val1, ↓vlW_own1, ↓p_ix_ref1, ↓obW_zero1, ↓obW_succ1, ↓ixO_dics1, ↓ixO_dici1, ↓ixO_lst1, ↓dg_cons1, ↓dg_dput1, ↓ptW_eq1, ↓ptS_own1, ↓ptS_ref1, ↓ptO_dics1, ↓ptD_dics1, ↓ptD_dici1, ↓stO_zero1, ↓stO_succ1, ↓stW_zero1, ↓stW_succ1, ↓p_add1, ↓p_sub1, ↓p_mul1, ↓p_fdiv1, ↓p_mod1, ↓p_pow1, ↓p_neg1, ↓p_lt1, ↓p_le1, ↓p_gt1, ↓p_ge1, ↓p_int1, ↓p_intb1, ↓p_isN1, ↓p_isN_int1, ↓p_isN_tup1, ↓p_isN_str1, ↓p_isN_lst1, ↓p_notN1, ↓p_notN_int1, ↓p_notN_tup1, ↓p_notN_str1, ↓p_notN_lst1, ↓p_len_lst1, ↓p_len_tup1, ↓p_len_fro1, ↓p_ix_lst1, ↓p_ix_tup1, ↓p_ix_dics1, ↓p_ix_dici1, ↓w_and1, ↓w_or1, ↓w_not1, ↓w_ite1, ↓w_chain1, ↓blW_bl1, ↓intW_int1, ↓w_cut1, ↓partW_none1, ↓partW_some1, ↓w_tup1, ↓w_lst1, ↓w_tE1, ↓w_tNot1, ↓w_tAnd1, ↓w_tOr1, ↓w_tYes1, ↓w_aNil1, ↓w_aCons1, ↓w_aStar1, ↓w_iVal1, ↓w_iArgs1, ↓tg_name1, ↓tgs_nil1, ↓tgs_cons1, ↓tg_tup1, ↓tg_lst1, ↓w_pass1, ↓w_brk1, ↓w_cont1, ↓w_ret1, ↓w_asg1, ↓w_take1, ↓w_parS1, ↓w_rowS_nil1, ↓w_rowS_cons1, ↓ptAll_nil1, ↓ptAll_cons1, ↓w_expr1, ↓w_if1, ↓w_for1, ↓w_forL_nil1, ↓w_forL_cons1, ↓w_augI1, ↓w_call1, ↓optW_some1, le_lim, lt_lim, ↓q_at0, ↓q_at1, ↓q_at2, ↓arr_nil, ↓arr_inl, ↓arr_inr, List.getElem?_cons_zero, List.getElem?_cons_succ, ↓q_isTy, ↓q_len_str, ↓q_walk_str, ↓q_in_chr, ↓q_all, ↓q_any, ↓q_eq_int, ↓w_app, ↓w_ext, ↓lstW_eq, ↓lsv_own, ↓ext_lst, ↓w_ref, ↓refW_dic, ↓refW_lst, ↓w_dic, ↓w_pairs_nil, ↓w_pairs_cons, ↓q_cut_lst, ↓q_cut_tup, ↓q_add_lst, ↓q_add_tup, ↓q_walk_lst, ↓q_walk_tup, ↓key_str, ↓key_int, List.foldl_cons, List.foldl_nil, ↓reduceIte, ownable, List.set_cons_succ, List.set_cons_zero, List.getD_cons_zero, List.getD_cons_succ, List.map_cons, List.map_nil, List.replicate, List.cons_append, List.nil_append, List.length_cons, List.length_nil, decide_eq_true_eq, K.s.injEq, K.i.injEq, List.cons.injEq, ↓q_rng1, ↓q_repr, ↓q_eq_rep, ↓q_ne_rep, abs_ten, List.length_map, List.length_append, ↓q_addL_lst, ↓q_mul_one, Nat.reducePow, Nat.reduceEqDiff, Nat.reduceAdd, Nat.reduceSub, Nat.reduceLT, Nat.reduceLeDiff, Int.reduceLT, Int.reduceLE, reduceCtorEq, false_and, and_false, and_true, true_and, Bool.not_true, Bool.not_false, Bool.false_eq_true, f__law_feed, scriptD, ↓q1, ↓q2]
  refine ⟨by simp [dput, noRK, noR, noRL_ints], ?_⟩
  rw [gcW_ref (Nat.zero_le _)]
  exact ⟨rfl, feed_of (cells := ns) (spot := 0) (left := 0) (drawn := 0) hl (by decide) (by decide) (by decide) rfl⟩
theorem feed_call (k : Nat) (ns : List Int) (hl : ns.length ≤ 63) : ∃ h, callN tab (k + 1) nmF [scriptD ns] [] = .ok (.ref 0) h ∧ Feed h 0 := by
  obtain ⟨d, h, e, rfl, f⟩ := CR.Wp_ok (feed_ok k ns hl)
  exact ⟨h, (call_tab (by rfl) _ _).trans e, f⟩
theorem draw_call (k : Nat) {h : List Ob} {many n : Int} (hf : Feed h n) (hm : 0 < many) (hm2 : many ≤ 2 ^ 62) (hn : n ≤ 2 ^ 60) : ∃ r h', callN tab (k + 1) nmD [.ref 0, .int many] h = .ok (.int r) h' ∧ 0 ≤ r ∧ r < many ∧ Feed h' (n + 1) := by
  obtain ⟨d, h', e, ⟨r, rfl, h1, h2⟩, f⟩ := CR.Wp_ok (draw_ok (callN tab k) h many n hf hm hm2 hn)
  exact ⟨r, h', (call_tab (by rfl) _ _).trans e, h1, h2, f⟩
theorem Feed.one {h : List Ob} {n : Int} (F : Feed h n) : ∃ o, h = [o] := by
  obtain ⟨c, s, l, d, rfl, _⟩ := F
  exact ⟨_, rfl⟩
theorem Feed.le {h : List Ob} {n m : Int} (F : Feed h n) (e : n ≤ m) : Feed h m := by
  obtain ⟨c, s, l, d, rfl, f1, f2, f3, f4⟩ := F
  exact ⟨c, s, l, d, rfl, f1, f2, f3, by omega⟩
end Cy

set_option Elab.async false
set_option maxRecDepth 1000000
set_option maxHeartbeats 0
set_option linter.all false
namespace Cy
def bookD : D := (.tup [(.tup [(.str [101]), (.int 0)]), (.tup [(.str [105, 110, 118]), (.int 1)]), (.tup [(.str [109, 117, 108]), (.int 2)])])
def placesD : D := (.dic [(.s [101], (.int 0)), (.s [105, 110, 118], (.int 1)), (.s [109, 117, 108], (.int 2))])
def rk0 : D := (.tup [(.str [105, 110, 118]), (.str [109, 117, 108]), (.str [101])])
def rk1 : D := (.tup [(.str [101]), (.str [109, 117, 108]), (.str [105, 110, 118])])
def L6 : List D := [(.int 0), (.int 1), (.int 2), (.int 5), (.int 10), (.int (10 ^ Int.toNat 59))]
abbrev nmCh : Nm := [99, 104, 97, 105, 110, 95, 111, 102]
abbrev nmLed : Nm := [95, 108, 97, 119, 95, 108, 101, 100]
abbrev nmSh : Nm := [115, 104, 97, 112, 101, 95, 98, 121]
abbrev nmIr : Nm := [105, 115, 95, 114, 117, 108, 101, 95, 98, 121]
abbrev nmEn : Nm := [101, 110, 100, 95, 117, 110, 100, 101, 114]
def tb (x y z : D) : D := .dic [(.i 0, x), (.i 1, y), (.i 2, z)]
/-- three of six numbers, one by one -/
def TR1 : List (D × D × D) := L6.map fun a => (a, .non, .non)
def TR2 (i : Nat) : List (D × D × D) := (List.range 5).map fun j => (L6[i]?.getD .non, (L6.eraseIdx i)[j]?.getD .non, .non)
def TR3 (i j : Nat) : List (D × D × D) := (List.range 4).map fun k => (L6[i]?.getD .non, (L6.eraseIdx i)[j]?.getD .non, ((L6.eraseIdx i).eraseIdx j)[k]?.getD .non)
/-- what is asked of a rule, its holes put in -/
noncomputable def askF (far : D → D → D → D) (tie : D) (o : Ob) (t : D × D × D) : CR × CR × Bool := (callF tabF 34 nmIr [placesD, far t.1 t.2.1 t.2.2] [o], callF tabF 35 nmSh [bookD, far t.1 t.2.1 t.2.2] [o], rOk (.lst [tie, far t.1 t.2.1 t.2.2]))
def tie0 : D := (.tup [(.tup [(.str [105, 110, 118]), (.tup [(.str [109, 117, 108]), (.int 0), (.int 1)])]), (.tup [(.str [109, 117, 108]), (.tup [(.str [105, 110, 118]), (.int 1)]), (.tup [(.str [105, 110, 118]), (.int 0)])])])
def due0_0 : D := (.tup [(.tup [(.tup [(.int 0), (.int 0), (.int (-1)), (.int 0)])]), (.str [103, 111, 111, 100])])
def due0_1 : D := (.tup [(.tup [(.tup [(.int 0), (.int 0), (.int (-1)), (.int 0)])]), (.str [114, 97, 110, 107])])
def shp0 : D := (.tup [(.tup [(.tup [(.int 0), (.int 0), (.int (-1)), (.int 0)])]), (.tup [(.str [105, 110, 118]), (.str [109, 117, 108])])])
def far0 (x y z : D) : D := (.tup [(.tup [(.str [105, 110, 118]), (.tup [(.str [109, 117, 108]), x, y])]), (.tup [(.str [109, 117, 108]), (.tup [(.str [105, 110, 118]), y]), (.tup [(.str [105, 110, 118]), x])])])
theorem led0_0 (x y z : D) (o : Ob) : callN tab 37 nmLed [tb x y z, (.tup [(.str [105, 110, 118]), (.tup [(.str [109, 117, 108]), (.int 0), (.int 1)])])] [o] = .ok ((.tup [(.str [105, 110, 118]), (.tup [(.str [109, 117, 108]), x, y])])) [o] := by rw [← run_F]; kernel_rfl
theorem led0_1 (x y z : D) (o : Ob) : callN tab 37 nmLed [tb x y z, (.tup [(.str [109, 117, 108]), (.tup [(.str [105, 110, 118]), (.int 1)]), (.tup [(.str [105, 110, 118]), (.int 0)])])] [o] = .ok ((.tup [(.str [109, 117, 108]), (.tup [(.str [105, 110, 118]), y]), (.tup [(.str [105, 110, 118]), x])])) [o] := by rw [← run_F]; kernel_rfl
theorem ask0_0 (o : Ob) : (TR2 0).map (askF far0 tie0 o) = (TR2 0).map fun _ => (.ok (.bl true) [o], .ok shp0 [o], true) := by kernel_rfl
theorem ask0_1 (o : Ob) : (TR2 1).map (askF far0 tie0 o) = (TR2 1).map fun _ => (.ok (.bl true) [o], .ok shp0 [o], true) := by kernel_rfl
theorem ask0_2 (o : Ob) : (TR2 2).map (askF far0 tie0 o) = (TR2 2).map fun _ => (.ok (.bl true) [o], .ok shp0 [o], true) := by kernel_rfl
theorem ask0_3 (o : Ob) : (TR2 3).map (askF far0 tie0 o) = (TR2 3).map fun _ => (.ok (.bl true) [o], .ok shp0 [o], true) := by kernel_rfl
theorem ask0_4 (o : Ob) : (TR2 4).map (askF far0 tie0 o) = (TR2 4).map fun _ => (.ok (.bl true) [o], .ok shp0 [o], true) := by kernel_rfl
theorem ask0_5 (o : Ob) : (TR2 5).map (askF far0 tie0 o) = (TR2 5).map fun _ => (.ok (.bl true) [o], .ok shp0 [o], true) := by kernel_rfl
theorem end0_0 (o : Ob) : callN tab 35 nmEn [rk0, (.tup [(.str [105, 110, 118]), (.str [109, 117, 108])])] [o] = .ok ((.str [103, 111, 111, 100])) [o] := by rw [← run_F]; kernel_rfl
theorem end0_1 (o : Ob) : callN tab 35 nmEn [rk1, (.tup [(.str [105, 110, 118]), (.str [109, 117, 108])])] [o] = .ok ((.str [114, 97, 110, 107])) [o] := by rw [← run_F]; kernel_rfl
theorem dr0 : (rOk (.lst [due0_0, due0_0, due0_0]) && rOk (.lst [due0_1, due0_1, due0_1])) = true := by decide +kernel
def tie1 : D := (.tup [(.tup [(.str [109, 117, 108]), (.tup [(.str [101])]), (.int 0)]), (.int 0)])
def due1_0 : D := (.tup [(.tup []), (.str [103, 111, 111, 100])])
def due1_1 : D := (.tup [(.tup []), (.str [103, 111, 111, 100])])
def shp1 : D := (.tup [(.tup []), (.str [103, 111, 111, 100])])
def far1 (x y z : D) : D := (.tup [(.tup [(.str [109, 117, 108]), (.tup [(.str [101])]), x]), x])
theorem led1_0 (x y z : D) (o : Ob) : callN tab 37 nmLed [tb x y z, (.tup [(.str [109, 117, 108]), (.tup [(.str [101])]), (.int 0)])] [o] = .ok ((.tup [(.str [109, 117, 108]), (.tup [(.str [101])]), x])) [o] := by rw [← run_F]; kernel_rfl
theorem led1_1 (x y z : D) (o : Ob) : callN tab 37 nmLed [tb x y z, (.int 0)] [o] = .ok (x) [o] := by rw [← run_F]; kernel_rfl
theorem ask1 (o : Ob) : TR1.map (askF far1 tie1 o) = TR1.map fun _ => (.ok (.bl true) [o], .ok shp1 [o], true) := by kernel_rfl
theorem end1_0 (o : Ob) : callN tab 35 nmEn [rk0, (.str [103, 111, 111, 100])] [o] = .ok ((.str [103, 111, 111, 100])) [o] := by rw [← run_F]; kernel_rfl
theorem end1_1 (o : Ob) : callN tab 35 nmEn [rk1, (.str [103, 111, 111, 100])] [o] = .ok ((.str [103, 111, 111, 100])) [o] := by rw [← run_F]; kernel_rfl
theorem dr1 : (rOk (.lst [due1_0, due1_0, due1_0]) && rOk (.lst [due1_1, due1_1, due1_1])) = true := by decide +kernel
def tie2 : D := (.tup [(.int 0), (.tup [(.str [101])])])
def due2_0 : D := (.tup [(.tup []), (.str [104, 111, 108, 101])])
def due2_1 : D := (.tup [(.tup []), (.str [104, 111, 108, 101])])
def shp2 : D := (.tup [(.tup []), (.str [104, 111, 108, 101])])
def far2 (x y z : D) : D := (.tup [x, (.tup [(.str [101])])])
theorem led2_0 (x y z : D) (o : Ob) : callN tab 37 nmLed [tb x y z, (.int 0)] [o] = .ok (x) [o] := by rw [← run_F]; kernel_rfl
theorem led2_1 (x y z : D) (o : Ob) : callN tab 37 nmLed [tb x y z, (.tup [(.str [101])])] [o] = .ok ((.tup [(.str [101])])) [o] := by rw [← run_F]; kernel_rfl
theorem ask2 (o : Ob) : TR1.map (askF far2 tie2 o) = TR1.map fun _ => (.ok (.bl true) [o], .ok shp2 [o], true) := by kernel_rfl
theorem end2_0 (o : Ob) : callN tab 35 nmEn [rk0, (.str [104, 111, 108, 101])] [o] = .ok ((.str [104, 111, 108, 101])) [o] := by rw [← run_F]; kernel_rfl
theorem end2_1 (o : Ob) : callN tab 35 nmEn [rk1, (.str [104, 111, 108, 101])] [o] = .ok ((.str [104, 111, 108, 101])) [o] := by rw [← run_F]; kernel_rfl
theorem dr2 : (rOk (.lst [due2_0, due2_0, due2_0]) && rOk (.lst [due2_1, due2_1, due2_1])) = true := by decide +kernel
def tie3 : D := (.tup [(.int 0), (.int 0)])
def due3_0 : D := (.tup [(.tup []), (.str [115, 97, 109, 101])])
def due3_1 : D := (.tup [(.tup []), (.str [115, 97, 109, 101])])
def shp3 : D := (.tup [(.tup []), (.str [115, 97, 109, 101])])
def far3 (x y z : D) : D := (.tup [x, x])
theorem led3_0 (x y z : D) (o : Ob) : callN tab 37 nmLed [tb x y z, (.int 0)] [o] = .ok (x) [o] := by rw [← run_F]; kernel_rfl
theorem led3_1 (x y z : D) (o : Ob) : callN tab 37 nmLed [tb x y z, (.int 0)] [o] = .ok (x) [o] := by rw [← run_F]; kernel_rfl
theorem ask3 (o : Ob) : TR1.map (askF far3 tie3 o) = TR1.map fun _ => (.ok (.bl true) [o], .ok shp3 [o], true) := by kernel_rfl
theorem end3_0 (o : Ob) : callN tab 35 nmEn [rk0, (.str [115, 97, 109, 101])] [o] = .ok ((.str [115, 97, 109, 101])) [o] := by rw [← run_F]; kernel_rfl
theorem end3_1 (o : Ob) : callN tab 35 nmEn [rk1, (.str [115, 97, 109, 101])] [o] = .ok ((.str [115, 97, 109, 101])) [o] := by rw [← run_F]; kernel_rfl
theorem dr3 : (rOk (.lst [due3_0, due3_0, due3_0]) && rOk (.lst [due3_1, due3_1, due3_1])) = true := by decide +kernel
def tie4 : D := (.tup [(.tup [(.str [109, 117, 108]), (.int 0), (.tup [(.str [101])])]), (.tup [(.str [109, 117, 108]), (.int 0), (.tup [(.str [101])])])])
def due4_0 : D := (.tup [(.tup []), (.str [115, 97, 109, 101])])
def due4_1 : D := (.tup [(.tup []), (.str [115, 97, 109, 101])])
def shp4 : D := (.tup [(.tup []), (.str [115, 97, 109, 101])])
def far4 (x y z : D) : D := (.tup [(.tup [(.str [109, 117, 108]), x, (.tup [(.str [101])])]), (.tup [(.str [109, 117, 108]), x, (.tup [(.str [101])])])])
theorem led4_0 (x y z : D) (o : Ob) : callN tab 37 nmLed [tb x y z, (.tup [(.str [109, 117, 108]), (.int 0), (.tup [(.str [101])])])] [o] = .ok ((.tup [(.str [109, 117, 108]), x, (.tup [(.str [101])])])) [o] := by rw [← run_F]; kernel_rfl
theorem led4_1 (x y z : D) (o : Ob) : callN tab 37 nmLed [tb x y z, (.tup [(.str [109, 117, 108]), (.int 0), (.tup [(.str [101])])])] [o] = .ok ((.tup [(.str [109, 117, 108]), x, (.tup [(.str [101])])])) [o] := by rw [← run_F]; kernel_rfl
theorem ask4 (o : Ob) : TR1.map (askF far4 tie4 o) = TR1.map fun _ => (.ok (.bl true) [o], .ok shp4 [o], true) := by kernel_rfl
theorem end4_0 (o : Ob) : callN tab 35 nmEn [rk0, (.str [115, 97, 109, 101])] [o] = .ok ((.str [115, 97, 109, 101])) [o] := by rw [← run_F]; kernel_rfl
theorem end4_1 (o : Ob) : callN tab 35 nmEn [rk1, (.str [115, 97, 109, 101])] [o] = .ok ((.str [115, 97, 109, 101])) [o] := by rw [← run_F]; kernel_rfl
theorem dr4 : (rOk (.lst [due4_0, due4_0, due4_0]) && rOk (.lst [due4_1, due4_1, due4_1])) = true := by decide +kernel
def tie5 : D := (.tup [(.tup [(.str [101])]), (.int 0)])
def due5_0 : D := (.tup [(.tup []), (.str [104, 111, 108, 101, 115])])
def due5_1 : D := (.tup [(.tup []), (.str [104, 111, 108, 101, 115])])
def shp5 : D := (.tup [(.tup []), (.str [104, 111, 108, 101, 115])])
def far5 (x y z : D) : D := (.tup [(.tup [(.str [101])]), x])
theorem led5_0 (x y z : D) (o : Ob) : callN tab 37 nmLed [tb x y z, (.tup [(.str [101])])] [o] = .ok ((.tup [(.str [101])])) [o] := by rw [← run_F]; kernel_rfl
theorem led5_1 (x y z : D) (o : Ob) : callN tab 37 nmLed [tb x y z, (.int 0)] [o] = .ok (x) [o] := by rw [← run_F]; kernel_rfl
theorem ask5 (o : Ob) : TR1.map (askF far5 tie5 o) = TR1.map fun _ => (.ok (.bl true) [o], .ok shp5 [o], true) := by kernel_rfl
theorem end5_0 (o : Ob) : callN tab 35 nmEn [rk0, (.str [104, 111, 108, 101, 115])] [o] = .ok ((.str [104, 111, 108, 101, 115])) [o] := by rw [← run_F]; kernel_rfl
theorem end5_1 (o : Ob) : callN tab 35 nmEn [rk1, (.str [104, 111, 108, 101, 115])] [o] = .ok ((.str [104, 111, 108, 101, 115])) [o] := by rw [← run_F]; kernel_rfl
theorem dr5 : (rOk (.lst [due5_0, due5_0, due5_0]) && rOk (.lst [due5_1, due5_1, due5_1])) = true := by decide +kernel
def tie6 : D := (.tup [(.tup [(.str [105, 110, 118]), (.tup [(.str [105, 110, 118]), (.int 0)])]), (.tup [(.str [109, 117, 108]), (.int 0), (.int 0)])])
def due6_0 : D := (.tup [(.tup []), (.str [104, 111, 108, 101, 115])])
def due6_1 : D := (.tup [(.tup []), (.str [104, 111, 108, 101, 115])])
def shp6 : D := (.tup [(.tup []), (.str [104, 111, 108, 101, 115])])
def far6 (x y z : D) : D := (.tup [(.tup [(.str [105, 110, 118]), (.tup [(.str [105, 110, 118]), x])]), (.tup [(.str [109, 117, 108]), x, x])])
theorem led6_0 (x y z : D) (o : Ob) : callN tab 37 nmLed [tb x y z, (.tup [(.str [105, 110, 118]), (.tup [(.str [105, 110, 118]), (.int 0)])])] [o] = .ok ((.tup [(.str [105, 110, 118]), (.tup [(.str [105, 110, 118]), x])])) [o] := by rw [← run_F]; kernel_rfl
theorem led6_1 (x y z : D) (o : Ob) : callN tab 37 nmLed [tb x y z, (.tup [(.str [109, 117, 108]), (.int 0), (.int 0)])] [o] = .ok ((.tup [(.str [109, 117, 108]), x, x])) [o] := by rw [← run_F]; kernel_rfl
theorem ask6 (o : Ob) : TR1.map (askF far6 tie6 o) = TR1.map fun _ => (.ok (.bl true) [o], .ok shp6 [o], true) := by kernel_rfl
theorem end6_0 (o : Ob) : callN tab 35 nmEn [rk0, (.str [104, 111, 108, 101, 115])] [o] = .ok ((.str [104, 111, 108, 101, 115])) [o] := by rw [← run_F]; kernel_rfl
theorem end6_1 (o : Ob) : callN tab 35 nmEn [rk1, (.str [104, 111, 108, 101, 115])] [o] = .ok ((.str [104, 111, 108, 101, 115])) [o] := by rw [← run_F]; kernel_rfl
theorem dr6 : (rOk (.lst [due6_0, due6_0, due6_0]) && rOk (.lst [due6_1, due6_1, due6_1])) = true := by decide +kernel
def tie7 : D := (.tup [(.tup [(.str [109, 117, 108]), (.tup [(.str [109, 117, 108]), (.int 0), (.int 1)]), (.int 2)]), (.tup [(.str [109, 117, 108]), (.int 0), (.tup [(.str [109, 117, 108]), (.int 1), (.int 2)])])])
def due7_0 : D := (.tup [(.tup [(.tup [(.int 0), (.int 0), (.int 0), (.int 0)])]), (.str [103, 111, 111, 100])])
def due7_1 : D := (.tup [(.tup [(.tup [(.int 0), (.int 0), (.int 0), (.int 0)])]), (.str [103, 111, 111, 100])])
def shp7 : D := (.tup [(.tup [(.tup [(.int 0), (.int 0), (.int 0), (.int 0)])]), (.str [103, 111, 111, 100])])
def far7 (x y z : D) : D := (.tup [(.tup [(.str [109, 117, 108]), (.tup [(.str [109, 117, 108]), x, y]), z]), (.tup [(.str [109, 117, 108]), x, (.tup [(.str [109, 117, 108]), y, z])])])
theorem led7_0 (x y z : D) (o : Ob) : callN tab 37 nmLed [tb x y z, (.tup [(.str [109, 117, 108]), (.tup [(.str [109, 117, 108]), (.int 0), (.int 1)]), (.int 2)])] [o] = .ok ((.tup [(.str [109, 117, 108]), (.tup [(.str [109, 117, 108]), x, y]), z])) [o] := by rw [← run_F]; kernel_rfl
theorem led7_1 (x y z : D) (o : Ob) : callN tab 37 nmLed [tb x y z, (.tup [(.str [109, 117, 108]), (.int 0), (.tup [(.str [109, 117, 108]), (.int 1), (.int 2)])])] [o] = .ok ((.tup [(.str [109, 117, 108]), x, (.tup [(.str [109, 117, 108]), y, z])])) [o] := by rw [← run_F]; kernel_rfl
theorem ask7_0_0 (o : Ob) : (TR3 0 0).map (askF far7 tie7 o) = (TR3 0 0).map fun _ => (.ok (.bl true) [o], .ok shp7 [o], true) := by kernel_rfl
theorem ask7_0_1 (o : Ob) : (TR3 0 1).map (askF far7 tie7 o) = (TR3 0 1).map fun _ => (.ok (.bl true) [o], .ok shp7 [o], true) := by kernel_rfl
theorem ask7_0_2 (o : Ob) : (TR3 0 2).map (askF far7 tie7 o) = (TR3 0 2).map fun _ => (.ok (.bl true) [o], .ok shp7 [o], true) := by kernel_rfl
theorem ask7_0_3 (o : Ob) : (TR3 0 3).map (askF far7 tie7 o) = (TR3 0 3).map fun _ => (.ok (.bl true) [o], .ok shp7 [o], true) := by kernel_rfl
theorem ask7_0_4 (o : Ob) : (TR3 0 4).map (askF far7 tie7 o) = (TR3 0 4).map fun _ => (.ok (.bl true) [o], .ok shp7 [o], true) := by kernel_rfl
theorem ask7_1_0 (o : Ob) : (TR3 1 0).map (askF far7 tie7 o) = (TR3 1 0).map fun _ => (.ok (.bl true) [o], .ok shp7 [o], true) := by kernel_rfl
theorem ask7_1_1 (o : Ob) : (TR3 1 1).map (askF far7 tie7 o) = (TR3 1 1).map fun _ => (.ok (.bl true) [o], .ok shp7 [o], true) := by kernel_rfl
theorem ask7_1_2 (o : Ob) : (TR3 1 2).map (askF far7 tie7 o) = (TR3 1 2).map fun _ => (.ok (.bl true) [o], .ok shp7 [o], true) := by kernel_rfl
theorem ask7_1_3 (o : Ob) : (TR3 1 3).map (askF far7 tie7 o) = (TR3 1 3).map fun _ => (.ok (.bl true) [o], .ok shp7 [o], true) := by kernel_rfl
theorem ask7_1_4 (o : Ob) : (TR3 1 4).map (askF far7 tie7 o) = (TR3 1 4).map fun _ => (.ok (.bl true) [o], .ok shp7 [o], true) := by kernel_rfl
theorem ask7_2_0 (o : Ob) : (TR3 2 0).map (askF far7 tie7 o) = (TR3 2 0).map fun _ => (.ok (.bl true) [o], .ok shp7 [o], true) := by kernel_rfl
theorem ask7_2_1 (o : Ob) : (TR3 2 1).map (askF far7 tie7 o) = (TR3 2 1).map fun _ => (.ok (.bl true) [o], .ok shp7 [o], true) := by kernel_rfl
theorem ask7_2_2 (o : Ob) : (TR3 2 2).map (askF far7 tie7 o) = (TR3 2 2).map fun _ => (.ok (.bl true) [o], .ok shp7 [o], true) := by kernel_rfl
theorem ask7_2_3 (o : Ob) : (TR3 2 3).map (askF far7 tie7 o) = (TR3 2 3).map fun _ => (.ok (.bl true) [o], .ok shp7 [o], true) := by kernel_rfl
theorem ask7_2_4 (o : Ob) : (TR3 2 4).map (askF far7 tie7 o) = (TR3 2 4).map fun _ => (.ok (.bl true) [o], .ok shp7 [o], true) := by kernel_rfl
theorem ask7_3_0 (o : Ob) : (TR3 3 0).map (askF far7 tie7 o) = (TR3 3 0).map fun _ => (.ok (.bl true) [o], .ok shp7 [o], true) := by kernel_rfl
theorem ask7_3_1 (o : Ob) : (TR3 3 1).map (askF far7 tie7 o) = (TR3 3 1).map fun _ => (.ok (.bl true) [o], .ok shp7 [o], true) := by kernel_rfl
theorem ask7_3_2 (o : Ob) : (TR3 3 2).map (askF far7 tie7 o) = (TR3 3 2).map fun _ => (.ok (.bl true) [o], .ok shp7 [o], true) := by kernel_rfl
theorem ask7_3_3 (o : Ob) : (TR3 3 3).map (askF far7 tie7 o) = (TR3 3 3).map fun _ => (.ok (.bl true) [o], .ok shp7 [o], true) := by kernel_rfl
theorem ask7_3_4 (o : Ob) : (TR3 3 4).map (askF far7 tie7 o) = (TR3 3 4).map fun _ => (.ok (.bl true) [o], .ok shp7 [o], true) := by kernel_rfl
theorem ask7_4_0 (o : Ob) : (TR3 4 0).map (askF far7 tie7 o) = (TR3 4 0).map fun _ => (.ok (.bl true) [o], .ok shp7 [o], true) := by kernel_rfl
theorem ask7_4_1 (o : Ob) : (TR3 4 1).map (askF far7 tie7 o) = (TR3 4 1).map fun _ => (.ok (.bl true) [o], .ok shp7 [o], true) := by kernel_rfl
theorem ask7_4_2 (o : Ob) : (TR3 4 2).map (askF far7 tie7 o) = (TR3 4 2).map fun _ => (.ok (.bl true) [o], .ok shp7 [o], true) := by kernel_rfl
theorem ask7_4_3 (o : Ob) : (TR3 4 3).map (askF far7 tie7 o) = (TR3 4 3).map fun _ => (.ok (.bl true) [o], .ok shp7 [o], true) := by kernel_rfl
theorem ask7_4_4 (o : Ob) : (TR3 4 4).map (askF far7 tie7 o) = (TR3 4 4).map fun _ => (.ok (.bl true) [o], .ok shp7 [o], true) := by kernel_rfl
theorem ask7_5_0 (o : Ob) : (TR3 5 0).map (askF far7 tie7 o) = (TR3 5 0).map fun _ => (.ok (.bl true) [o], .ok shp7 [o], true) := by kernel_rfl
theorem ask7_5_1 (o : Ob) : (TR3 5 1).map (askF far7 tie7 o) = (TR3 5 1).map fun _ => (.ok (.bl true) [o], .ok shp7 [o], true) := by kernel_rfl
theorem ask7_5_2 (o : Ob) : (TR3 5 2).map (askF far7 tie7 o) = (TR3 5 2).map fun _ => (.ok (.bl true) [o], .ok shp7 [o], true) := by kernel_rfl
theorem ask7_5_3 (o : Ob) : (TR3 5 3).map (askF far7 tie7 o) = (TR3 5 3).map fun _ => (.ok (.bl true) [o], .ok shp7 [o], true) := by kernel_rfl
theorem ask7_5_4 (o : Ob) : (TR3 5 4).map (askF far7 tie7 o) = (TR3 5 4).map fun _ => (.ok (.bl true) [o], .ok shp7 [o], true) := by kernel_rfl
theorem end7_0 (o : Ob) : callN tab 35 nmEn [rk0, (.str [103, 111, 111, 100])] [o] = .ok ((.str [103, 111, 111, 100])) [o] := by rw [← run_F]; kernel_rfl
theorem end7_1 (o : Ob) : callN tab 35 nmEn [rk1, (.str [103, 111, 111, 100])] [o] = .ok ((.str [103, 111, 111, 100])) [o] := by rw [← run_F]; kernel_rfl
theorem dr7 : (rOk (.lst [due7_0, due7_0, due7_0]) && rOk (.lst [due7_1, due7_1, due7_1])) = true := by decide +kernel
def tie8 : D := (.tup [(.tup [(.str [109, 117, 108]), (.int 0), (.tup [(.str [109, 117, 108]), (.int 1), (.int 2)])]), (.tup [(.str [109, 117, 108]), (.tup [(.str [109, 117, 108]), (.int 0), (.int 1)]), (.int 2)])])
def due8_0 : D := (.tup [(.tup [(.tup [(.int 0), (.int 0), (.int 0), (.int 0)])]), (.str [104, 111, 108, 101])])
def due8_1 : D := (.tup [(.tup [(.tup [(.int 0), (.int 0), (.int 0), (.int 0)])]), (.str [104, 111, 108, 101])])
def shp8 : D := (.tup [(.tup [(.tup [(.int 0), (.int 0), (.int 0), (.int 0)])]), (.str [104, 111, 108, 101])])
def far8 (x y z : D) : D := (.tup [(.tup [(.str [109, 117, 108]), x, (.tup [(.str [109, 117, 108]), y, z])]), (.tup [(.str [109, 117, 108]), (.tup [(.str [109, 117, 108]), x, y]), z])])
theorem led8_0 (x y z : D) (o : Ob) : callN tab 37 nmLed [tb x y z, (.tup [(.str [109, 117, 108]), (.int 0), (.tup [(.str [109, 117, 108]), (.int 1), (.int 2)])])] [o] = .ok ((.tup [(.str [109, 117, 108]), x, (.tup [(.str [109, 117, 108]), y, z])])) [o] := by rw [← run_F]; kernel_rfl
theorem led8_1 (x y z : D) (o : Ob) : callN tab 37 nmLed [tb x y z, (.tup [(.str [109, 117, 108]), (.tup [(.str [109, 117, 108]), (.int 0), (.int 1)]), (.int 2)])] [o] = .ok ((.tup [(.str [109, 117, 108]), (.tup [(.str [109, 117, 108]), x, y]), z])) [o] := by rw [← run_F]; kernel_rfl
theorem ask8_0_0 (o : Ob) : (TR3 0 0).map (askF far8 tie8 o) = (TR3 0 0).map fun _ => (.ok (.bl true) [o], .ok shp8 [o], true) := by kernel_rfl
theorem ask8_0_1 (o : Ob) : (TR3 0 1).map (askF far8 tie8 o) = (TR3 0 1).map fun _ => (.ok (.bl true) [o], .ok shp8 [o], true) := by kernel_rfl
theorem ask8_0_2 (o : Ob) : (TR3 0 2).map (askF far8 tie8 o) = (TR3 0 2).map fun _ => (.ok (.bl true) [o], .ok shp8 [o], true) := by kernel_rfl
theorem ask8_0_3 (o : Ob) : (TR3 0 3).map (askF far8 tie8 o) = (TR3 0 3).map fun _ => (.ok (.bl true) [o], .ok shp8 [o], true) := by kernel_rfl
theorem ask8_0_4 (o : Ob) : (TR3 0 4).map (askF far8 tie8 o) = (TR3 0 4).map fun _ => (.ok (.bl true) [o], .ok shp8 [o], true) := by kernel_rfl
theorem ask8_1_0 (o : Ob) : (TR3 1 0).map (askF far8 tie8 o) = (TR3 1 0).map fun _ => (.ok (.bl true) [o], .ok shp8 [o], true) := by kernel_rfl
theorem ask8_1_1 (o : Ob) : (TR3 1 1).map (askF far8 tie8 o) = (TR3 1 1).map fun _ => (.ok (.bl true) [o], .ok shp8 [o], true) := by kernel_rfl
theorem ask8_1_2 (o : Ob) : (TR3 1 2).map (askF far8 tie8 o) = (TR3 1 2).map fun _ => (.ok (.bl true) [o], .ok shp8 [o], true) := by kernel_rfl
theorem ask8_1_3 (o : Ob) : (TR3 1 3).map (askF far8 tie8 o) = (TR3 1 3).map fun _ => (.ok (.bl true) [o], .ok shp8 [o], true) := by kernel_rfl
theorem ask8_1_4 (o : Ob) : (TR3 1 4).map (askF far8 tie8 o) = (TR3 1 4).map fun _ => (.ok (.bl true) [o], .ok shp8 [o], true) := by kernel_rfl
theorem ask8_2_0 (o : Ob) : (TR3 2 0).map (askF far8 tie8 o) = (TR3 2 0).map fun _ => (.ok (.bl true) [o], .ok shp8 [o], true) := by kernel_rfl
theorem ask8_2_1 (o : Ob) : (TR3 2 1).map (askF far8 tie8 o) = (TR3 2 1).map fun _ => (.ok (.bl true) [o], .ok shp8 [o], true) := by kernel_rfl
theorem ask8_2_2 (o : Ob) : (TR3 2 2).map (askF far8 tie8 o) = (TR3 2 2).map fun _ => (.ok (.bl true) [o], .ok shp8 [o], true) := by kernel_rfl
theorem ask8_2_3 (o : Ob) : (TR3 2 3).map (askF far8 tie8 o) = (TR3 2 3).map fun _ => (.ok (.bl true) [o], .ok shp8 [o], true) := by kernel_rfl
theorem ask8_2_4 (o : Ob) : (TR3 2 4).map (askF far8 tie8 o) = (TR3 2 4).map fun _ => (.ok (.bl true) [o], .ok shp8 [o], true) := by kernel_rfl
theorem ask8_3_0 (o : Ob) : (TR3 3 0).map (askF far8 tie8 o) = (TR3 3 0).map fun _ => (.ok (.bl true) [o], .ok shp8 [o], true) := by kernel_rfl
theorem ask8_3_1 (o : Ob) : (TR3 3 1).map (askF far8 tie8 o) = (TR3 3 1).map fun _ => (.ok (.bl true) [o], .ok shp8 [o], true) := by kernel_rfl
theorem ask8_3_2 (o : Ob) : (TR3 3 2).map (askF far8 tie8 o) = (TR3 3 2).map fun _ => (.ok (.bl true) [o], .ok shp8 [o], true) := by kernel_rfl
theorem ask8_3_3 (o : Ob) : (TR3 3 3).map (askF far8 tie8 o) = (TR3 3 3).map fun _ => (.ok (.bl true) [o], .ok shp8 [o], true) := by kernel_rfl
theorem ask8_3_4 (o : Ob) : (TR3 3 4).map (askF far8 tie8 o) = (TR3 3 4).map fun _ => (.ok (.bl true) [o], .ok shp8 [o], true) := by kernel_rfl
theorem ask8_4_0 (o : Ob) : (TR3 4 0).map (askF far8 tie8 o) = (TR3 4 0).map fun _ => (.ok (.bl true) [o], .ok shp8 [o], true) := by kernel_rfl
theorem ask8_4_1 (o : Ob) : (TR3 4 1).map (askF far8 tie8 o) = (TR3 4 1).map fun _ => (.ok (.bl true) [o], .ok shp8 [o], true) := by kernel_rfl
theorem ask8_4_2 (o : Ob) : (TR3 4 2).map (askF far8 tie8 o) = (TR3 4 2).map fun _ => (.ok (.bl true) [o], .ok shp8 [o], true) := by kernel_rfl
theorem ask8_4_3 (o : Ob) : (TR3 4 3).map (askF far8 tie8 o) = (TR3 4 3).map fun _ => (.ok (.bl true) [o], .ok shp8 [o], true) := by kernel_rfl
theorem ask8_4_4 (o : Ob) : (TR3 4 4).map (askF far8 tie8 o) = (TR3 4 4).map fun _ => (.ok (.bl true) [o], .ok shp8 [o], true) := by kernel_rfl
theorem ask8_5_0 (o : Ob) : (TR3 5 0).map (askF far8 tie8 o) = (TR3 5 0).map fun _ => (.ok (.bl true) [o], .ok shp8 [o], true) := by kernel_rfl
theorem ask8_5_1 (o : Ob) : (TR3 5 1).map (askF far8 tie8 o) = (TR3 5 1).map fun _ => (.ok (.bl true) [o], .ok shp8 [o], true) := by kernel_rfl
theorem ask8_5_2 (o : Ob) : (TR3 5 2).map (askF far8 tie8 o) = (TR3 5 2).map fun _ => (.ok (.bl true) [o], .ok shp8 [o], true) := by kernel_rfl
theorem ask8_5_3 (o : Ob) : (TR3 5 3).map (askF far8 tie8 o) = (TR3 5 3).map fun _ => (.ok (.bl true) [o], .ok shp8 [o], true) := by kernel_rfl
theorem ask8_5_4 (o : Ob) : (TR3 5 4).map (askF far8 tie8 o) = (TR3 5 4).map fun _ => (.ok (.bl true) [o], .ok shp8 [o], true) := by kernel_rfl
theorem end8_0 (o : Ob) : callN tab 35 nmEn [rk0, (.str [104, 111, 108, 101])] [o] = .ok ((.str [104, 111, 108, 101])) [o] := by rw [← run_F]; kernel_rfl
theorem end8_1 (o : Ob) : callN tab 35 nmEn [rk1, (.str [104, 111, 108, 101])] [o] = .ok ((.str [104, 111, 108, 101])) [o] := by rw [← run_F]; kernel_rfl
theorem dr8 : (rOk (.lst [due8_0, due8_0, due8_0]) && rOk (.lst [due8_1, due8_1, due8_1])) = true := by decide +kernel
def tie9 : D := (.tup [(.tup [(.str [109, 117, 108]), (.int 0), (.int 1)]), (.tup [(.str [109, 117, 108]), (.int 1), (.int 0)])])
def due9_0 : D := (.tup [(.tup [(.tup [(.int 0), (.int 0), (.int 0), (.int 0)])]), (.str [104, 111, 108, 101])])
def due9_1 : D := (.tup [(.tup [(.tup [(.int 0), (.int 0), (.int 0), (.int 0)])]), (.str [104, 111, 108, 101])])
def shp9 : D := (.tup [(.tup [(.tup [(.int 0), (.int 0), (.int 0), (.int 0)])]), (.str [104, 111, 108, 101])])
def far9 (x y z : D) : D := (.tup [(.tup [(.str [109, 117, 108]), x, y]), (.tup [(.str [109, 117, 108]), y, x])])
theorem led9_0 (x y z : D) (o : Ob) : callN tab 37 nmLed [tb x y z, (.tup [(.str [109, 117, 108]), (.int 0), (.int 1)])] [o] = .ok ((.tup [(.str [109, 117, 108]), x, y])) [o] := by rw [← run_F]; kernel_rfl
theorem led9_1 (x y z : D) (o : Ob) : callN tab 37 nmLed [tb x y z, (.tup [(.str [109, 117, 108]), (.int 1), (.int 0)])] [o] = .ok ((.tup [(.str [109, 117, 108]), y, x])) [o] := by rw [← run_F]; kernel_rfl
theorem ask9_0 (o : Ob) : (TR2 0).map (askF far9 tie9 o) = (TR2 0).map fun _ => (.ok (.bl true) [o], .ok shp9 [o], true) := by kernel_rfl
theorem ask9_1 (o : Ob) : (TR2 1).map (askF far9 tie9 o) = (TR2 1).map fun _ => (.ok (.bl true) [o], .ok shp9 [o], true) := by kernel_rfl
theorem ask9_2 (o : Ob) : (TR2 2).map (askF far9 tie9 o) = (TR2 2).map fun _ => (.ok (.bl true) [o], .ok shp9 [o], true) := by kernel_rfl
theorem ask9_3 (o : Ob) : (TR2 3).map (askF far9 tie9 o) = (TR2 3).map fun _ => (.ok (.bl true) [o], .ok shp9 [o], true) := by kernel_rfl
theorem ask9_4 (o : Ob) : (TR2 4).map (askF far9 tie9 o) = (TR2 4).map fun _ => (.ok (.bl true) [o], .ok shp9 [o], true) := by kernel_rfl
theorem ask9_5 (o : Ob) : (TR2 5).map (askF far9 tie9 o) = (TR2 5).map fun _ => (.ok (.bl true) [o], .ok shp9 [o], true) := by kernel_rfl
theorem end9_0 (o : Ob) : callN tab 35 nmEn [rk0, (.str [104, 111, 108, 101])] [o] = .ok ((.str [104, 111, 108, 101])) [o] := by rw [← run_F]; kernel_rfl
theorem end9_1 (o : Ob) : callN tab 35 nmEn [rk1, (.str [104, 111, 108, 101])] [o] = .ok ((.str [104, 111, 108, 101])) [o] := by rw [← run_F]; kernel_rfl
theorem dr9 : (rOk (.lst [due9_0, due9_0, due9_0]) && rOk (.lst [due9_1, due9_1, due9_1])) = true := by decide +kernel
def tie10 : D := (.tup [(.tup [(.str [109, 117, 108]), (.tup [(.str [105, 110, 118]), (.int 0)]), (.int 1)]), (.tup [(.str [109, 117, 108]), (.int 0), (.tup [(.str [105, 110, 118]), (.int 1)])])])
def due10_0 : D := (.tup [(.tup [(.tup [(.int 0), (.int 0), (.int 0), (.int 0)])]), (.str [103, 111, 111, 100])])
def due10_1 : D := (.tup [(.tup [(.tup [(.int 0), (.int 0), (.int 0), (.int 0)])]), (.str [103, 111, 111, 100])])
def shp10 : D := (.tup [(.tup [(.tup [(.int 0), (.int 0), (.int 0), (.int 0)])]), (.str [103, 111, 111, 100])])
def far10 (x y z : D) : D := (.tup [(.tup [(.str [109, 117, 108]), (.tup [(.str [105, 110, 118]), x]), y]), (.tup [(.str [109, 117, 108]), x, (.tup [(.str [105, 110, 118]), y])])])
theorem led10_0 (x y z : D) (o : Ob) : callN tab 37 nmLed [tb x y z, (.tup [(.str [109, 117, 108]), (.tup [(.str [105, 110, 118]), (.int 0)]), (.int 1)])] [o] = .ok ((.tup [(.str [109, 117, 108]), (.tup [(.str [105, 110, 118]), x]), y])) [o] := by rw [← run_F]; kernel_rfl
theorem led10_1 (x y z : D) (o : Ob) : callN tab 37 nmLed [tb x y z, (.tup [(.str [109, 117, 108]), (.int 0), (.tup [(.str [105, 110, 118]), (.int 1)])])] [o] = .ok ((.tup [(.str [109, 117, 108]), x, (.tup [(.str [105, 110, 118]), y])])) [o] := by rw [← run_F]; kernel_rfl
theorem ask10_0 (o : Ob) : (TR2 0).map (askF far10 tie10 o) = (TR2 0).map fun _ => (.ok (.bl true) [o], .ok shp10 [o], true) := by kernel_rfl
theorem ask10_1 (o : Ob) : (TR2 1).map (askF far10 tie10 o) = (TR2 1).map fun _ => (.ok (.bl true) [o], .ok shp10 [o], true) := by kernel_rfl
theorem ask10_2 (o : Ob) : (TR2 2).map (askF far10 tie10 o) = (TR2 2).map fun _ => (.ok (.bl true) [o], .ok shp10 [o], true) := by kernel_rfl
theorem ask10_3 (o : Ob) : (TR2 3).map (askF far10 tie10 o) = (TR2 3).map fun _ => (.ok (.bl true) [o], .ok shp10 [o], true) := by kernel_rfl
theorem ask10_4 (o : Ob) : (TR2 4).map (askF far10 tie10 o) = (TR2 4).map fun _ => (.ok (.bl true) [o], .ok shp10 [o], true) := by kernel_rfl
theorem ask10_5 (o : Ob) : (TR2 5).map (askF far10 tie10 o) = (TR2 5).map fun _ => (.ok (.bl true) [o], .ok shp10 [o], true) := by kernel_rfl
theorem end10_0 (o : Ob) : callN tab 35 nmEn [rk0, (.str [103, 111, 111, 100])] [o] = .ok ((.str [103, 111, 111, 100])) [o] := by rw [← run_F]; kernel_rfl
theorem end10_1 (o : Ob) : callN tab 35 nmEn [rk1, (.str [103, 111, 111, 100])] [o] = .ok ((.str [103, 111, 111, 100])) [o] := by rw [← run_F]; kernel_rfl
theorem dr10 : (rOk (.lst [due10_0, due10_0, due10_0]) && rOk (.lst [due10_1, due10_1, due10_1])) = true := by decide +kernel
def tie11 : D := (.tup [(.tup [(.str [109, 117, 108]), (.int 0), (.int 0)]), (.tup [(.str [105, 110, 118]), (.int 0)])])
def due11_0 : D := (.tup [(.tup [(.tup [(.int 1), (.int 0), (.int (-1)), (.int 1)])]), (.str [114, 97, 110, 107])])
def due11_1 : D := (.tup [(.tup [(.tup [(.int 1), (.int 0), (.int (-1)), (.int 1)])]), (.str [103, 111, 111, 100])])
def shp11 : D := (.tup [(.tup [(.tup [(.int 1), (.int 0), (.int (-1)), (.int 1)])]), (.tup [(.str [109, 117, 108]), (.str [105, 110, 118])])])
def far11 (x y z : D) : D := (.tup [(.tup [(.str [109, 117, 108]), x, x]), (.tup [(.str [105, 110, 118]), x])])
theorem led11_0 (x y z : D) (o : Ob) : callN tab 37 nmLed [tb x y z, (.tup [(.str [109, 117, 108]), (.int 0), (.int 0)])] [o] = .ok ((.tup [(.str [109, 117, 108]), x, x])) [o] := by rw [← run_F]; kernel_rfl
theorem led11_1 (x y z : D) (o : Ob) : callN tab 37 nmLed [tb x y z, (.tup [(.str [105, 110, 118]), (.int 0)])] [o] = .ok ((.tup [(.str [105, 110, 118]), x])) [o] := by rw [← run_F]; kernel_rfl
theorem ask11 (o : Ob) : TR1.map (askF far11 tie11 o) = TR1.map fun _ => (.ok (.bl true) [o], .ok shp11 [o], true) := by kernel_rfl
theorem end11_0 (o : Ob) : callN tab 35 nmEn [rk0, (.tup [(.str [109, 117, 108]), (.str [105, 110, 118])])] [o] = .ok ((.str [114, 97, 110, 107])) [o] := by rw [← run_F]; kernel_rfl
theorem end11_1 (o : Ob) : callN tab 35 nmEn [rk1, (.tup [(.str [109, 117, 108]), (.str [105, 110, 118])])] [o] = .ok ((.str [103, 111, 111, 100])) [o] := by rw [← run_F]; kernel_rfl
theorem dr11 : (rOk (.lst [due11_0, due11_0, due11_0]) && rOk (.lst [due11_1, due11_1, due11_1])) = true := by decide +kernel
def tie12 : D := (.tup [(.tup [(.str [109, 117, 108]), (.tup [(.str [109, 117, 108]), (.tup [(.str [101])]), (.int 0)]), (.tup [(.str [101])])]), (.tup [(.str [109, 117, 108]), (.tup [(.str [109, 117, 108]), (.tup [(.str [101])]), (.int 0)]), (.tup [(.str [105, 110, 118]), (.tup [(.str [101])])])])])
def due12_0 : D := (.tup [(.tup [(.tup [(.int 0), (.int 0), (.int (-1)), (.int 0)]), (.tup [(.int 0), (.int 0), (.int (-1)), (.int 0)])]), (.str [114, 97, 110, 107])])
def due12_1 : D := (.tup [(.tup [(.tup [(.int 0), (.int 0), (.int (-1)), (.int 0)]), (.tup [(.int 0), (.int 0), (.int (-1)), (.int 0)])]), (.str [103, 111, 111, 100])])
def shp12 : D := (.tup [(.tup [(.tup [(.int 0), (.int 0), (.int (-1)), (.int 0)]), (.tup [(.int 0), (.int 0), (.int (-1)), (.int 0)])]), (.tup [(.str [101]), (.str [105, 110, 118])])])
def far12 (x y z : D) : D := (.tup [(.tup [(.str [109, 117, 108]), (.tup [(.str [109, 117, 108]), (.tup [(.str [101])]), x]), (.tup [(.str [101])])]), (.tup [(.str [109, 117, 108]), (.tup [(.str [109, 117, 108]), (.tup [(.str [101])]), x]), (.tup [(.str [105, 110, 118]), (.tup [(.str [101])])])])])
theorem led12_0 (x y z : D) (o : Ob) : callN tab 37 nmLed [tb x y z, (.tup [(.str [109, 117, 108]), (.tup [(.str [109, 117, 108]), (.tup [(.str [101])]), (.int 0)]), (.tup [(.str [101])])])] [o] = .ok ((.tup [(.str [109, 117, 108]), (.tup [(.str [109, 117, 108]), (.tup [(.str [101])]), x]), (.tup [(.str [101])])])) [o] := by rw [← run_F]; kernel_rfl
theorem led12_1 (x y z : D) (o : Ob) : callN tab 37 nmLed [tb x y z, (.tup [(.str [109, 117, 108]), (.tup [(.str [109, 117, 108]), (.tup [(.str [101])]), (.int 0)]), (.tup [(.str [105, 110, 118]), (.tup [(.str [101])])])])] [o] = .ok ((.tup [(.str [109, 117, 108]), (.tup [(.str [109, 117, 108]), (.tup [(.str [101])]), x]), (.tup [(.str [105, 110, 118]), (.tup [(.str [101])])])])) [o] := by rw [← run_F]; kernel_rfl
theorem ask12 (o : Ob) : TR1.map (askF far12 tie12 o) = TR1.map fun _ => (.ok (.bl true) [o], .ok shp12 [o], true) := by kernel_rfl
theorem end12_0 (o : Ob) : callN tab 35 nmEn [rk0, (.tup [(.str [101]), (.str [105, 110, 118])])] [o] = .ok ((.str [114, 97, 110, 107])) [o] := by rw [← run_F]; kernel_rfl
theorem end12_1 (o : Ob) : callN tab 35 nmEn [rk1, (.tup [(.str [101]), (.str [105, 110, 118])])] [o] = .ok ((.str [103, 111, 111, 100])) [o] := by rw [← run_F]; kernel_rfl
theorem dr12 : (rOk (.lst [due12_0, due12_0, due12_0]) && rOk (.lst [due12_1, due12_1, due12_1])) = true := by decide +kernel
def tie13 : D := (.tup [(.tup [(.str [109, 117, 108]), (.tup [(.str [101])]), (.tup [(.str [105, 110, 118]), (.int 0)])]), (.tup [(.str [109, 117, 108]), (.tup [(.str [105, 110, 118]), (.tup [(.str [101])])]), (.int 0)])])
def due13_0 : D := (.tup [(.tup [(.tup [(.int 0), (.int 0), (.int 0), (.int 0)]), (.tup [(.int 0), (.int 0), (.int (-1)), (.int 0)])]), (.str [114, 97, 110, 107])])
def due13_1 : D := (.tup [(.tup [(.tup [(.int 0), (.int 0), (.int 0), (.int 0)]), (.tup [(.int 0), (.int 0), (.int (-1)), (.int 0)])]), (.str [103, 111, 111, 100])])
def shp13 : D := (.tup [(.tup [(.tup [(.int 0), (.int 0), (.int 0), (.int 0)]), (.tup [(.int 0), (.int 0), (.int (-1)), (.int 0)])]), (.tup [(.str [101]), (.str [105, 110, 118])])])
def far13 (x y z : D) : D := (.tup [(.tup [(.str [109, 117, 108]), (.tup [(.str [101])]), (.tup [(.str [105, 110, 118]), x])]), (.tup [(.str [109, 117, 108]), (.tup [(.str [105, 110, 118]), (.tup [(.str [101])])]), x])])
theorem led13_0 (x y z : D) (o : Ob) : callN tab 37 nmLed [tb x y z, (.tup [(.str [109, 117, 108]), (.tup [(.str [101])]), (.tup [(.str [105, 110, 118]), (.int 0)])])] [o] = .ok ((.tup [(.str [109, 117, 108]), (.tup [(.str [101])]), (.tup [(.str [105, 110, 118]), x])])) [o] := by rw [← run_F]; kernel_rfl
theorem led13_1 (x y z : D) (o : Ob) : callN tab 37 nmLed [tb x y z, (.tup [(.str [109, 117, 108]), (.tup [(.str [105, 110, 118]), (.tup [(.str [101])])]), (.int 0)])] [o] = .ok ((.tup [(.str [109, 117, 108]), (.tup [(.str [105, 110, 118]), (.tup [(.str [101])])]), x])) [o] := by rw [← run_F]; kernel_rfl
theorem ask13 (o : Ob) : TR1.map (askF far13 tie13 o) = TR1.map fun _ => (.ok (.bl true) [o], .ok shp13 [o], true) := by kernel_rfl
theorem end13_0 (o : Ob) : callN tab 35 nmEn [rk0, (.tup [(.str [101]), (.str [105, 110, 118])])] [o] = .ok ((.str [114, 97, 110, 107])) [o] := by rw [← run_F]; kernel_rfl
theorem end13_1 (o : Ob) : callN tab 35 nmEn [rk1, (.tup [(.str [101]), (.str [105, 110, 118])])] [o] = .ok ((.str [103, 111, 111, 100])) [o] := by rw [← run_F]; kernel_rfl
theorem dr13 : (rOk (.lst [due13_0, due13_0, due13_0]) && rOk (.lst [due13_1, due13_1, due13_1])) = true := by decide +kernel
def tie14 : D := (.tup [(.tup [(.str [109, 117, 108]), (.tup [(.str [105, 110, 118]), (.tup [(.str [101])])]), (.int 0)]), (.tup [(.str [109, 117, 108]), (.tup [(.str [101])]), (.tup [(.str [105, 110, 118]), (.int 0)])])])
def due14_0 : D := (.tup [(.tup [(.tup [(.int 0), (.int 0), (.int 0), (.int 0)]), (.tup [(.int 0), (.int 0), (.int 1), (.int 0)])]), (.str [103, 111, 111, 100])])
def due14_1 : D := (.tup [(.tup [(.tup [(.int 0), (.int 0), (.int 0), (.int 0)]), (.tup [(.int 0), (.int 0), (.int 1), (.int 0)])]), (.str [114, 97, 110, 107])])
def shp14 : D := (.tup [(.tup [(.tup [(.int 0), (.int 0), (.int 0), (.int 0)]), (.tup [(.int 0), (.int 0), (.int 1), (.int 0)])]), (.tup [(.str [105, 110, 118]), (.str [101])])])
def far14 (x y z : D) : D := (.tup [(.tup [(.str [109, 117, 108]), (.tup [(.str [105, 110, 118]), (.tup [(.str [101])])]), x]), (.tup [(.str [109, 117, 108]), (.tup [(.str [101])]), (.tup [(.str [105, 110, 118]), x])])])
theorem led14_0 (x y z : D) (o : Ob) : callN tab 37 nmLed [tb x y z, (.tup [(.str [109, 117, 108]), (.tup [(.str [105, 110, 118]), (.tup [(.str [101])])]), (.int 0)])] [o] = .ok ((.tup [(.str [109, 117, 108]), (.tup [(.str [105, 110, 118]), (.tup [(.str [101])])]), x])) [o] := by rw [← run_F]; kernel_rfl
theorem led14_1 (x y z : D) (o : Ob) : callN tab 37 nmLed [tb x y z, (.tup [(.str [109, 117, 108]), (.tup [(.str [101])]), (.tup [(.str [105, 110, 118]), (.int 0)])])] [o] = .ok ((.tup [(.str [109, 117, 108]), (.tup [(.str [101])]), (.tup [(.str [105, 110, 118]), x])])) [o] := by rw [← run_F]; kernel_rfl
theorem ask14 (o : Ob) : TR1.map (askF far14 tie14 o) = TR1.map fun _ => (.ok (.bl true) [o], .ok shp14 [o], true) := by kernel_rfl
theorem end14_0 (o : Ob) : callN tab 35 nmEn [rk0, (.tup [(.str [105, 110, 118]), (.str [101])])] [o] = .ok ((.str [103, 111, 111, 100])) [o] := by rw [← run_F]; kernel_rfl
theorem end14_1 (o : Ob) : callN tab 35 nmEn [rk1, (.tup [(.str [105, 110, 118]), (.str [101])])] [o] = .ok ((.str [114, 97, 110, 107])) [o] := by rw [← run_F]; kernel_rfl
theorem dr14 : (rOk (.lst [due14_0, due14_0, due14_0]) && rOk (.lst [due14_1, due14_1, due14_1])) = true := by decide +kernel
def tie15 : D := (.tup [(.tup [(.str [109, 117, 108]), (.int 0), (.tup [(.str [109, 117, 108]), (.int 1), (.int 1)])]), (.tup [(.str [109, 117, 108]), (.tup [(.str [105, 110, 118]), (.int 1)]), (.int 0)])])
def due15_0 : D := (.tup [(.tup [(.tup [(.int 1), (.int 0), (.int (-1)), (.int 1)])]), (.str [104, 111, 108, 101])])
def due15_1 : D := (.tup [(.tup [(.tup [(.int 1), (.int 0), (.int (-1)), (.int 1)])]), (.str [104, 111, 108, 101])])
def shp15 : D := (.tup [(.tup [(.tup [(.int 1), (.int 0), (.int (-1)), (.int 1)])]), (.str [104, 111, 108, 101])])
def far15 (x y z : D) : D := (.tup [(.tup [(.str [109, 117, 108]), x, (.tup [(.str [109, 117, 108]), y, y])]), (.tup [(.str [109, 117, 108]), (.tup [(.str [105, 110, 118]), y]), x])])
theorem led15_0 (x y z : D) (o : Ob) : callN tab 37 nmLed [tb x y z, (.tup [(.str [109, 117, 108]), (.int 0), (.tup [(.str [109, 117, 108]), (.int 1), (.int 1)])])] [o] = .ok ((.tup [(.str [109, 117, 108]), x, (.tup [(.str [109, 117, 108]), y, y])])) [o] := by rw [← run_F]; kernel_rfl
theorem led15_1 (x y z : D) (o : Ob) : callN tab 37 nmLed [tb x y z, (.tup [(.str [109, 117, 108]), (.tup [(.str [105, 110, 118]), (.int 1)]), (.int 0)])] [o] = .ok ((.tup [(.str [109, 117, 108]), (.tup [(.str [105, 110, 118]), y]), x])) [o] := by rw [← run_F]; kernel_rfl
theorem ask15_0 (o : Ob) : (TR2 0).map (askF far15 tie15 o) = (TR2 0).map fun _ => (.ok (.bl true) [o], .ok shp15 [o], true) := by kernel_rfl
theorem ask15_1 (o : Ob) : (TR2 1).map (askF far15 tie15 o) = (TR2 1).map fun _ => (.ok (.bl true) [o], .ok shp15 [o], true) := by kernel_rfl
theorem ask15_2 (o : Ob) : (TR2 2).map (askF far15 tie15 o) = (TR2 2).map fun _ => (.ok (.bl true) [o], .ok shp15 [o], true) := by kernel_rfl
theorem ask15_3 (o : Ob) : (TR2 3).map (askF far15 tie15 o) = (TR2 3).map fun _ => (.ok (.bl true) [o], .ok shp15 [o], true) := by kernel_rfl
theorem ask15_4 (o : Ob) : (TR2 4).map (askF far15 tie15 o) = (TR2 4).map fun _ => (.ok (.bl true) [o], .ok shp15 [o], true) := by kernel_rfl
theorem ask15_5 (o : Ob) : (TR2 5).map (askF far15 tie15 o) = (TR2 5).map fun _ => (.ok (.bl true) [o], .ok shp15 [o], true) := by kernel_rfl
theorem end15_0 (o : Ob) : callN tab 35 nmEn [rk0, (.str [104, 111, 108, 101])] [o] = .ok ((.str [104, 111, 108, 101])) [o] := by rw [← run_F]; kernel_rfl
theorem end15_1 (o : Ob) : callN tab 35 nmEn [rk1, (.str [104, 111, 108, 101])] [o] = .ok ((.str [104, 111, 108, 101])) [o] := by rw [← run_F]; kernel_rfl
theorem dr15 : (rOk (.lst [due15_0, due15_0, due15_0]) && rOk (.lst [due15_1, due15_1, due15_1])) = true := by decide +kernel
def tie16 : D := (.tup [(.tup [(.str [109, 117, 108]), (.tup [(.str [105, 110, 118]), (.int 0)]), (.tup [(.str [105, 110, 118]), (.int 1)])]), (.tup [(.str [109, 117, 108]), (.tup [(.str [105, 110, 118]), (.int 0)]), (.tup [(.str [105, 110, 118]), (.int 0)])])])
def due16_0 : D := (.tup [(.tup []), (.str [104, 111, 108, 101, 115])])
def due16_1 : D := (.tup [(.tup []), (.str [104, 111, 108, 101, 115])])
def shp16 : D := (.tup [(.tup []), (.str [104, 111, 108, 101, 115])])
def far16 (x y z : D) : D := (.tup [(.tup [(.str [109, 117, 108]), (.tup [(.str [105, 110, 118]), x]), (.tup [(.str [105, 110, 118]), y])]), (.tup [(.str [109, 117, 108]), (.tup [(.str [105, 110, 118]), x]), (.tup [(.str [105, 110, 118]), x])])])
theorem led16_0 (x y z : D) (o : Ob) : callN tab 37 nmLed [tb x y z, (.tup [(.str [109, 117, 108]), (.tup [(.str [105, 110, 118]), (.int 0)]), (.tup [(.str [105, 110, 118]), (.int 1)])])] [o] = .ok ((.tup [(.str [109, 117, 108]), (.tup [(.str [105, 110, 118]), x]), (.tup [(.str [105, 110, 118]), y])])) [o] := by rw [← run_F]; kernel_rfl
theorem led16_1 (x y z : D) (o : Ob) : callN tab 37 nmLed [tb x y z, (.tup [(.str [109, 117, 108]), (.tup [(.str [105, 110, 118]), (.int 0)]), (.tup [(.str [105, 110, 118]), (.int 0)])])] [o] = .ok ((.tup [(.str [109, 117, 108]), (.tup [(.str [105, 110, 118]), x]), (.tup [(.str [105, 110, 118]), x])])) [o] := by rw [← run_F]; kernel_rfl
theorem ask16_0 (o : Ob) : (TR2 0).map (askF far16 tie16 o) = (TR2 0).map fun _ => (.ok (.bl true) [o], .ok shp16 [o], true) := by kernel_rfl
theorem ask16_1 (o : Ob) : (TR2 1).map (askF far16 tie16 o) = (TR2 1).map fun _ => (.ok (.bl true) [o], .ok shp16 [o], true) := by kernel_rfl
theorem ask16_2 (o : Ob) : (TR2 2).map (askF far16 tie16 o) = (TR2 2).map fun _ => (.ok (.bl true) [o], .ok shp16 [o], true) := by kernel_rfl
theorem ask16_3 (o : Ob) : (TR2 3).map (askF far16 tie16 o) = (TR2 3).map fun _ => (.ok (.bl true) [o], .ok shp16 [o], true) := by kernel_rfl
theorem ask16_4 (o : Ob) : (TR2 4).map (askF far16 tie16 o) = (TR2 4).map fun _ => (.ok (.bl true) [o], .ok shp16 [o], true) := by kernel_rfl
theorem ask16_5 (o : Ob) : (TR2 5).map (askF far16 tie16 o) = (TR2 5).map fun _ => (.ok (.bl true) [o], .ok shp16 [o], true) := by kernel_rfl
theorem end16_0 (o : Ob) : callN tab 35 nmEn [rk0, (.str [104, 111, 108, 101, 115])] [o] = .ok ((.str [104, 111, 108, 101, 115])) [o] := by rw [← run_F]; kernel_rfl
theorem end16_1 (o : Ob) : callN tab 35 nmEn [rk1, (.str [104, 111, 108, 101, 115])] [o] = .ok ((.str [104, 111, 108, 101, 115])) [o] := by rw [← run_F]; kernel_rfl
theorem dr16 : (rOk (.lst [due16_0, due16_0, due16_0]) && rOk (.lst [due16_1, due16_1, due16_1])) = true := by decide +kernel
end Cy

set_option Elab.async false
set_option maxRecDepth 1000000
set_option maxHeartbeats 400000
set_option linter.all false
set_option pp.deepTerms.threshold 4
namespace Cy
theorem gcW_one {d : D} {b : Ob} {Q : D → List Ob → Prop} : GcW 1 d [b] Q = Q d [b] := gcW_le1 (Nat.le_refl _)
theorem book31 {k : Nat} (o : Ob) : callN tab 34 [119, 97, 110, 116, 95, 98, 111, 111, 107] [bookD] [o] = .ok .non [o] := by rw [← run_F]; kernel_rfl
theorem book31b (o : Ob) : callN tab 36 [119, 97, 110, 116, 95, 98, 111, 111, 107] [bookD] [o] = .ok .non [o] := by rw [← run_F]; kernel_rfl
theorem rank31_0 (o : Ob) : callN tab 36 [119, 97, 110, 116, 95, 114, 97, 110, 107] [bookD, rk0] [o] = .ok .non [o] := by rw [← run_F]; kernel_rfl
theorem rank31_1 (o : Ob) : callN tab 36 [119, 97, 110, 116, 95, 114, 97, 110, 107] [bookD, rk1] [o] = .ok .non [o] := by rw [← run_F]; kernel_rfl
theorem places31 (o : Ob) : callN tab 34 [112, 108, 97, 99, 101, 115, 95, 98, 121] [bookD] [o] = .ok placesD [o] := by rw [← run_F]; kernel_rfl
theorem chain31 {o : Ob} {rk far fm en out : D} (hr : callN tab 36 [119, 97, 110, 116, 95, 114, 97, 110, 107] [bookD, rk] [o] = .ok .non [o]) (h1 : callN tab 34 nmIr [placesD, far] [o] = .ok (.bl true) [o]) (h2 : callN tab 35 nmSh [bookD, far] [o] = .ok (.tup [fm, en]) [o])
    (h3 : callN tab 35 nmEn [rk, en] [o] = .ok out [o]) : callN tab 37 nmCh [bookD, rk, far] [o] = .ok (.tup [fm, out]) [o] := by
  have wb := fun Q E => CR.Wp_of (book31 (k := 0) o) Q E
  have wb2 := fun Q E => CR.Wp_of (book31b o) Q E
  have wr := fun Q E => CR.Wp_of hr Q E
  have wp := fun Q E => CR.Wp_of (places31 o) Q E
  have w1 := fun Q E => CR.Wp_of h1 Q E
  have w2 := fun Q E => CR.Wp_of h2 Q E
  have w3 := fun Q E => CR.Wp_of h3 Q E
  have isr : callN tab 35 [105, 115, 95, 114, 117, 108, 101] [bookD, far] [o] = .ok (.bl true) [o] := by
    rw [call_tab (by rfl)]
    suffices hw : (runF f_is_rule (callN tab 34) [bookD, far] [o]).Wp (fun d h => d = .bl true ∧ h = [o]) fun _ _ => False by
      obtain ⟨d, h, e, rfl, rfl⟩ := CR.Wp_ok hw
      exact e
    simp (disch := first | assumption | omega) only [↓w_run1, ↓gcW_same1, ↓gcW_11, noR_int, noR_str, noR_bl, noR_non, ↓gcW_le1, ↓start, ↓w_seq1, ↓w_putS1, ↓w_o11, ↓w_o21, ↓w_get1, ↓w_ex1, ↓w_pk1, ↓w_cst1, ↓w_var1, ↓varW_val1, ↓varW_own1, ↓slW_zero1, ↓slW_succ1, ↓liveW_val1, ↓liveW_own1, ↓rdW_ex1, ↓rdW_pk1, ↓vlW_val1, ↓vlW_own1, ↓p_ix_ref1, ↓obW_zero1, ↓obW_succ1, ↓ixO_dics1, ↓ixO_dici1, ↓ixO_lst1, ↓dg_cons1, ↓dg_dput1, ↓ptW_eq1, ↓ptS_own1, ↓ptS_ref1, ↓ptO_dics1, ↓ptD_dics1, ↓ptD_dici1, ↓stO_zero1, ↓stO_succ1, ↓stW_zero1, ↓stW_succ1, ↓p_add1, ↓p_sub1, ↓p_mul1, ↓p_fdiv1, ↓p_mod1, ↓p_pow1, ↓p_neg1, ↓p_lt1, ↓p_le1, ↓p_gt1, ↓p_ge1, ↓p_int1, ↓p_intb1, ↓p_isN1, ↓p_isN_int1, ↓p_isN_tup1, ↓p_isN_str1, ↓p_isN_lst1, ↓p_notN1, ↓p_notN_int1, ↓p_notN_tup1, ↓p_notN_str1, ↓p_notN_lst1, ↓p_len_lst1, ↓p_len_tup1, ↓p_len_fro1, ↓p_ix_lst1, ↓p_ix_tup1, ↓p_ix_dics1, ↓p_ix_dici1, ↓w_and1, ↓w_or1, ↓w_not1, ↓w_ite1, ↓w_chain1, ↓blW_bl1, ↓intW_int1, ↓w_cut1, ↓partW_none1, ↓partW_some1, ↓w_tup1, ↓w_lst1, ↓w_tE1, ↓w_tNot1, ↓w_tAnd1, ↓w_tOr1, ↓w_tYes1, ↓w_aNil1, ↓w_aCons1, ↓w_aStar1, ↓w_iVal1, ↓w_iArgs1, ↓tg_name1, ↓tgs_nil1, ↓tgs_cons1, ↓tg_tup1, ↓tg_lst1, ↓w_pass1, ↓w_brk1, ↓w_cont1, ↓w_ret1, ↓w_asg1, ↓w_take1, ↓w_parS1, ↓w_rowS_nil1, ↓w_rowS_cons1, ↓ptAll_nil1, ↓ptAll_cons1, ↓w_expr1, ↓w_if1, ↓w_for1, ↓w_forL_nil1, ↓w_forL_cons1, ↓w_augI1, ↓w_call1, ↓optW_some1, le_lim, lt_lim, ↓q_at0, ↓q_at1, ↓q_at2, ↓arr_nil, ↓arr_inl, ↓arr_inr, List.getElem?_cons_zero, List.getElem?_cons_succ, ↓q_isTy, ↓q_len_str, ↓q_walk_str, ↓q_in_chr, ↓q_all, ↓q_any, ↓q_eq_int, ↓w_app, ↓w_ext, ↓lstW_eq, ↓lsv_own, ↓ext_lst, ↓w_ref, ↓refW_dic, ↓refW_lst, ↓w_dic, ↓w_pairs_nil, ↓w_pairs_cons, ↓q_cut_lst, ↓q_cut_tup, ↓q_add_lst, ↓q_add_tup, ↓q_walk_lst, ↓q_walk_tup, ↓key_str, ↓key_int, List.foldl_cons, List.foldl_nil, ↓reduceIte, ownable, List.set_cons_succ, List.set_cons_zero, List.getD_cons_zero, List.getD_cons_succ, List.map_cons, List.map_nil, List.replicate, List.cons_append, List.nil_append, List.length_cons, List.length_nil, decide_eq_true_eq, K.s.injEq, K.i.injEq, List.cons.injEq, ↓q_rng1, ↓q_repr, ↓q_eq_rep, ↓q_ne_rep, abs_ten, List.length_map, List.length_append, ↓q_addL_lst, ↓q_mul_one, Nat.reducePow, Nat.reduceEqDiff, Nat.reduceAdd, Nat.reduceSub, Nat.reduceLT, Nat.reduceLeDiff, Int.reduceLT, Int.reduceLE, reduceCtorEq, false_and, and_false, and_true, true_and, Bool.not_true, Bool.not_false, Bool.false_eq_true, ↓gcW_one, f_is_rule, ↓wb, ↓wp, ↓w1]
  have wi := fun Q E => CR.Wp_of isr Q E
  have wt : callN tab 35 [119, 97, 110, 116] [.bl true, .str [114, 117, 108, 101], .int (-1)] [o] = .ok .non [o] := by rw [← run_F]; kernel_rfl
  have wt2 := fun Q E => CR.Wp_of wt Q E
  have wru : callN tab 36 [119, 97, 110, 116, 95, 114, 117, 108, 101] [bookD, far] [o] = .ok .non [o] := by
    rw [call_tab (by rfl)]
    suffices hw : (runF f_want_rule (callN tab 35) [bookD, far] [o]).Wp (fun d h => d = .non ∧ h = [o]) fun _ _ => False by
      obtain ⟨d, h, e, rfl, rfl⟩ := CR.Wp_ok hw
      exact e
    simp (disch := first | assumption | omega) only [↓w_run1, ↓gcW_same1, ↓gcW_11, noR_int, noR_str, noR_bl, noR_non, ↓gcW_le1, ↓start, ↓w_seq1, ↓w_putS1, ↓w_o11, ↓w_o21, ↓w_get1, ↓w_ex1, ↓w_pk1, ↓w_cst1, ↓w_var1, ↓varW_val1, ↓varW_own1, ↓slW_zero1, ↓slW_succ1, ↓liveW_val1, ↓liveW_own1, ↓rdW_ex1, ↓rdW_pk1, ↓vlW_val1, ↓vlW_own1, ↓p_ix_ref1, ↓obW_zero1, ↓obW_succ1, ↓ixO_dics1, ↓ixO_dici1, ↓ixO_lst1, ↓dg_cons1, ↓dg_dput1, ↓ptW_eq1, ↓ptS_own1, ↓ptS_ref1, ↓ptO_dics1, ↓ptD_dics1, ↓ptD_dici1, ↓stO_zero1, ↓stO_succ1, ↓stW_zero1, ↓stW_succ1, ↓p_add1, ↓p_sub1, ↓p_mul1, ↓p_fdiv1, ↓p_mod1, ↓p_pow1, ↓p_neg1, ↓p_lt1, ↓p_le1, ↓p_gt1, ↓p_ge1, ↓p_int1, ↓p_intb1, ↓p_isN1, ↓p_isN_int1, ↓p_isN_tup1, ↓p_isN_str1, ↓p_isN_lst1, ↓p_notN1, ↓p_notN_int1, ↓p_notN_tup1, ↓p_notN_str1, ↓p_notN_lst1, ↓p_len_lst1, ↓p_len_tup1, ↓p_len_fro1, ↓p_ix_lst1, ↓p_ix_tup1, ↓p_ix_dics1, ↓p_ix_dici1, ↓w_and1, ↓w_or1, ↓w_not1, ↓w_ite1, ↓w_chain1, ↓blW_bl1, ↓intW_int1, ↓w_cut1, ↓partW_none1, ↓partW_some1, ↓w_tup1, ↓w_lst1, ↓w_tE1, ↓w_tNot1, ↓w_tAnd1, ↓w_tOr1, ↓w_tYes1, ↓w_aNil1, ↓w_aCons1, ↓w_aStar1, ↓w_iVal1, ↓w_iArgs1, ↓tg_name1, ↓tgs_nil1, ↓tgs_cons1, ↓tg_tup1, ↓tg_lst1, ↓w_pass1, ↓w_brk1, ↓w_cont1, ↓w_ret1, ↓w_asg1, ↓w_take1, ↓w_parS1, ↓w_rowS_nil1, ↓w_rowS_cons1, ↓ptAll_nil1, ↓ptAll_cons1, ↓w_expr1, ↓w_if1, ↓w_for1, ↓w_forL_nil1, ↓w_forL_cons1, ↓w_augI1, ↓w_call1, ↓optW_some1, le_lim, lt_lim, ↓q_at0, ↓q_at1, ↓q_at2, ↓arr_nil, ↓arr_inl, ↓arr_inr, List.getElem?_cons_zero, List.getElem?_cons_succ, ↓q_isTy, ↓q_len_str, ↓q_walk_str, ↓q_in_chr, ↓q_all, ↓q_any, ↓q_eq_int, ↓w_app, ↓w_ext, ↓lstW_eq, ↓lsv_own, ↓ext_lst, ↓w_ref, ↓refW_dic, ↓refW_lst, ↓w_dic, ↓w_pairs_nil, ↓w_pairs_cons, ↓q_cut_lst, ↓q_cut_tup, ↓q_add_lst, ↓q_add_tup, ↓q_walk_lst, ↓q_walk_tup, ↓key_str, ↓key_int, List.foldl_cons, List.foldl_nil, ↓reduceIte, ownable, List.set_cons_succ, List.set_cons_zero, List.getD_cons_zero, List.getD_cons_succ, List.map_cons, List.map_nil, List.replicate, List.cons_append, List.nil_append, List.length_cons, List.length_nil, decide_eq_true_eq, K.s.injEq, K.i.injEq, List.cons.injEq, ↓q_rng1, ↓q_repr, ↓q_eq_rep, ↓q_ne_rep, abs_ten, List.length_map, List.length_append, ↓q_addL_lst, ↓q_mul_one, Nat.reducePow, Nat.reduceEqDiff, Nat.reduceAdd, Nat.reduceSub, Nat.reduceLT, Nat.reduceLeDiff, Int.reduceLT, Int.reduceLE, reduceCtorEq, false_and, and_false, and_true, true_and, Bool.not_true, Bool.not_false, Bool.false_eq_true, ↓gcW_one, f_want_rule, ↓wi, ↓wt2]
  have wru2 := fun Q E => CR.Wp_of wru Q E
  have cb : callN tab 36 [99, 104, 97, 105, 110, 95, 98, 121] [bookD, rk, far] [o] = .ok (.tup [fm, out]) [o] := by
    rw [call_tab (by rfl)]
    suffices hw : (runF f_chain_by (callN tab 35) [bookD, rk, far] [o]).Wp (fun d h => d = .tup [fm, out] ∧ h = [o]) fun _ _ => False by
      obtain ⟨d, h, e, rfl, rfl⟩ := CR.Wp_ok hw
      exact e
    simp (disch := first | assumption | omega) only [↓w_run1, ↓gcW_same1, ↓gcW_11, noR_int, noR_str, noR_bl, noR_non, ↓gcW_le1, ↓start, ↓w_seq1, ↓w_putS1, ↓w_o11, ↓w_o21, ↓w_get1, ↓w_ex1, ↓w_pk1, ↓w_cst1, ↓w_var1, ↓varW_val1, ↓varW_own1, ↓slW_zero1, ↓slW_succ1, ↓liveW_val1, ↓liveW_own1, ↓rdW_ex1, ↓rdW_pk1, ↓vlW_val1, ↓vlW_own1, ↓p_ix_ref1, ↓obW_zero1, ↓obW_succ1, ↓ixO_dics1, ↓ixO_dici1, ↓ixO_lst1, ↓dg_cons1, ↓dg_dput1, ↓ptW_eq1, ↓ptS_own1, ↓ptS_ref1, ↓ptO_dics1, ↓ptD_dics1, ↓ptD_dici1, ↓stO_zero1, ↓stO_succ1, ↓stW_zero1, ↓stW_succ1, ↓p_add1, ↓p_sub1, ↓p_mul1, ↓p_fdiv1, ↓p_mod1, ↓p_pow1, ↓p_neg1, ↓p_lt1, ↓p_le1, ↓p_gt1, ↓p_ge1, ↓p_int1, ↓p_intb1, ↓p_isN1, ↓p_isN_int1, ↓p_isN_tup1, ↓p_isN_str1, ↓p_isN_lst1, ↓p_notN1, ↓p_notN_int1, ↓p_notN_tup1, ↓p_notN_str1, ↓p_notN_lst1, ↓p_len_lst1, ↓p_len_tup1, ↓p_len_fro1, ↓p_ix_lst1, ↓p_ix_tup1, ↓p_ix_dics1, ↓p_ix_dici1, ↓w_and1, ↓w_or1, ↓w_not1, ↓w_ite1, ↓w_chain1, ↓blW_bl1, ↓intW_int1, ↓w_cut1, ↓partW_none1, ↓partW_some1, ↓w_tup1, ↓w_lst1, ↓w_tE1, ↓w_tNot1, ↓w_tAnd1, ↓w_tOr1, ↓w_tYes1, ↓w_aNil1, ↓w_aCons1, ↓w_aStar1, ↓w_iVal1, ↓w_iArgs1, ↓tg_name1, ↓tgs_nil1, ↓tgs_cons1, ↓tg_tup1, ↓tg_lst1, ↓w_pass1, ↓w_brk1, ↓w_cont1, ↓w_ret1, ↓w_asg1, ↓w_take1, ↓w_parS1, ↓w_rowS_nil1, ↓w_rowS_cons1, ↓ptAll_nil1, ↓ptAll_cons1, ↓w_expr1, ↓w_if1, ↓w_for1, ↓w_forL_nil1, ↓w_forL_cons1, ↓w_augI1, ↓w_call1, ↓optW_some1, le_lim, lt_lim, ↓q_at0, ↓q_at1, ↓q_at2, ↓arr_nil, ↓arr_inl, ↓arr_inr, List.getElem?_cons_zero, List.getElem?_cons_succ, ↓q_isTy, ↓q_len_str, ↓q_walk_str, ↓q_in_chr, ↓q_all, ↓q_any, ↓q_eq_int, ↓w_app, ↓w_ext, ↓lstW_eq, ↓lsv_own, ↓ext_lst, ↓w_ref, ↓refW_dic, ↓refW_lst, ↓w_dic, ↓w_pairs_nil, ↓w_pairs_cons, ↓q_cut_lst, ↓q_cut_tup, ↓q_add_lst, ↓q_add_tup, ↓q_walk_lst, ↓q_walk_tup, ↓key_str, ↓key_int, List.foldl_cons, List.foldl_nil, ↓reduceIte, ownable, List.set_cons_succ, List.set_cons_zero, List.getD_cons_zero, List.getD_cons_succ, List.map_cons, List.map_nil, List.replicate, List.cons_append, List.nil_append, List.length_cons, List.length_nil, decide_eq_true_eq, K.s.injEq, K.i.injEq, List.cons.injEq, ↓q_rng1, ↓q_repr, ↓q_eq_rep, ↓q_ne_rep, abs_ten, List.length_map, List.length_append, ↓q_addL_lst, ↓q_mul_one, Nat.reducePow, Nat.reduceEqDiff, Nat.reduceAdd, Nat.reduceSub, Nat.reduceLT, Nat.reduceLeDiff, Int.reduceLT, Int.reduceLE, reduceCtorEq, false_and, and_false, and_true, true_and, Bool.not_true, Bool.not_false, Bool.false_eq_true, ↓gcW_one, f_chain_by, ↓w2, ↓w3]
  have cb2 := fun Q E => CR.Wp_of cb Q E
  rw [call_tab (by rfl)]
  suffices hw : (runF f_chain_of (callN tab 36) [bookD, rk, far] [o]).Wp (fun d h => d = .tup [fm, out] ∧ h = [o]) fun _ _ => False by
    obtain ⟨d, h, e, rfl, rfl⟩ := CR.Wp_ok hw
    exact e
  simp (disch := first | assumption | omega) only [↓w_run1, ↓gcW_same1, ↓gcW_11, noR_int, noR_str, noR_bl, noR_non, ↓gcW_le1, ↓start, ↓w_seq1, ↓w_putS1, ↓w_o11, ↓w_o21, ↓w_get1, ↓w_ex1, ↓w_pk1, ↓w_cst1, ↓w_var1, ↓varW_val1, ↓varW_own1, ↓slW_zero1, ↓slW_succ1, ↓liveW_val1, ↓liveW_own1, ↓rdW_ex1, ↓rdW_pk1, ↓vlW_val1, ↓vlW_own1, ↓p_ix_ref1, ↓obW_zero1, ↓obW_succ1, ↓ixO_dics1, ↓ixO_dici1, ↓ixO_lst1, ↓dg_cons1, ↓dg_dput1, ↓ptW_eq1, ↓ptS_own1, ↓ptS_ref1, ↓ptO_dics1, ↓ptD_dics1, ↓ptD_dici1, ↓stO_zero1, ↓stO_succ1, ↓stW_zero1, ↓stW_succ1, ↓p_add1, ↓p_sub1, ↓p_mul1, ↓p_fdiv1, ↓p_mod1, ↓p_pow1, ↓p_neg1, ↓p_lt1, ↓p_le1, ↓p_gt1, ↓p_ge1, ↓p_int1, ↓p_intb1, ↓p_isN1, ↓p_isN_int1, ↓p_isN_tup1, ↓p_isN_str1, ↓p_isN_lst1, ↓p_notN1, ↓p_notN_int1, ↓p_notN_tup1, ↓p_notN_str1, ↓p_notN_lst1, ↓p_len_lst1, ↓p_len_tup1, ↓p_len_fro1, ↓p_ix_lst1, ↓p_ix_tup1, ↓p_ix_dics1, ↓p_ix_dici1, ↓w_and1, ↓w_or1, ↓w_not1, ↓w_ite1, ↓w_chain1, ↓blW_bl1, ↓intW_int1, ↓w_cut1, ↓partW_none1, ↓partW_some1, ↓w_tup1, ↓w_lst1, ↓w_tE1, ↓w_tNot1, ↓w_tAnd1, ↓w_tOr1, ↓w_tYes1, ↓w_aNil1, ↓w_aCons1, ↓w_aStar1, ↓w_iVal1, ↓w_iArgs1, ↓tg_name1, ↓tgs_nil1, ↓tgs_cons1, ↓tg_tup1, ↓tg_lst1, ↓w_pass1, ↓w_brk1, ↓w_cont1, ↓w_ret1, ↓w_asg1, ↓w_take1, ↓w_parS1, ↓w_rowS_nil1, ↓w_rowS_cons1, ↓ptAll_nil1, ↓ptAll_cons1, ↓w_expr1, ↓w_if1, ↓w_for1, ↓w_forL_nil1, ↓w_forL_cons1, ↓w_augI1, ↓w_call1, ↓optW_some1, le_lim, lt_lim, ↓q_at0, ↓q_at1, ↓q_at2, ↓arr_nil, ↓arr_inl, ↓arr_inr, List.getElem?_cons_zero, List.getElem?_cons_succ, ↓q_isTy, ↓q_len_str, ↓q_walk_str, ↓q_in_chr, ↓q_all, ↓q_any, ↓q_eq_int, ↓w_app, ↓w_ext, ↓lstW_eq, ↓lsv_own, ↓ext_lst, ↓w_ref, ↓refW_dic, ↓refW_lst, ↓w_dic, ↓w_pairs_nil, ↓w_pairs_cons, ↓q_cut_lst, ↓q_cut_tup, ↓q_add_lst, ↓q_add_tup, ↓q_walk_lst, ↓q_walk_tup, ↓key_str, ↓key_int, List.foldl_cons, List.foldl_nil, ↓reduceIte, ownable, List.set_cons_succ, List.set_cons_zero, List.getD_cons_zero, List.getD_cons_succ, List.map_cons, List.map_nil, List.replicate, List.cons_append, List.nil_append, List.length_cons, List.length_nil, decide_eq_true_eq, K.s.injEq, K.i.injEq, List.cons.injEq, ↓q_rng1, ↓q_repr, ↓q_eq_rep, ↓q_ne_rep, abs_ten, List.length_map, List.length_append, ↓q_addL_lst, ↓q_mul_one, Nat.reducePow, Nat.reduceEqDiff, Nat.reduceAdd, Nat.reduceSub, Nat.reduceLT, Nat.reduceLeDiff, Int.reduceLT, Int.reduceLE, reduceCtorEq, false_and, and_false, and_true, true_and, Bool.not_true, Bool.not_false, Bool.false_eq_true, ↓gcW_one, f_chain_of, ↓wb2, ↓wr, ↓wru2, ↓cb2]
end Cy

set_option Elab.async false
set_option maxRecDepth 1000000
set_option maxHeartbeats 400000
set_option linter.all false
set_option pp.deepTerms.threshold 4
namespace Cy
theorem L6_pop {l : List D} {r : Int} {m : Nat} (hl : l.length = m + 1) (h0 : 0 ≤ r) (h1 : r < m + 1) : (∀ P : Nat → Prop, OptW (ixN (m + 1) r) P = P r.toNat) ∧ (∀ P : D → Prop, OptW l[r.toNat]? P = P (l[r.toNat]?.getD .non)) ∧ (l.eraseIdx r.toNat).length = m := by
  have lt : r.toNat < l.length := by omega
  refine ⟨optW_of ?_, optW_of ?_, ?_⟩
  · unfold ixN
    rw [if_pos h0, if_pos (by omega)]
  · rw [List.getElem?_eq_getElem lt]; rfl
  · rw [List.length_eraseIdx_of_lt lt]; omega
theorem smallI_of {r : Int} (h0 : 0 ≤ r) (h1 : r ≤ 100) : smallI r = true := by
  simp only [smallI, Bool.and_eq_true, decide_eq_true_eq]
  omega
/-- the numbers that the holes get -/
def hx (i : Nat) : D := L6[i]?.getD .non
def hy (i j : Nat) : D := (L6.eraseIdx i)[j]?.getD .non
def hz (i j k : Nat) : D := ((L6.eraseIdx i).eraseIdx j)[k]?.getD .non
theorem right31 {n : Int} {H : List Ob} {one oth due0 due1 : D} {f0 f1 : D → D → D → D} (hF : Feed H n) (hn : n ≤ 1000)
    (led0 : ∀ x y z o, callN tab 37 nmLed [tb x y z, one] [o] = .ok (f0 x y z) [o]) (led1 : ∀ x y z o, callN tab 37 nmLed [tb x y z, oth] [o] = .ok (f1 x y z) [o])
    (ask0 : ∀ i j k, i < 6 → j < 5 → k < 4 → ∀ o, callN tab 37 nmCh [bookD, rk0, .tup [f0 (hx i) (hy i j) (hz i j k), f1 (hx i) (hy i j) (hz i j k)]] [o] = .ok due0 [o])
    (ask1 : ∀ i j k, i < 6 → j < 5 → k < 4 → ∀ o, callN tab 37 nmCh [bookD, rk1, .tup [f0 (hx i) (hy i j) (hz i j k), f1 (hx i) (hy i j) (hz i j k)]] [o] = .ok due1 [o])
    (tie0 : ∀ o, callN tab 37 nmCh [bookD, rk0, .tup [one, oth]] [o] = .ok due0 [o]) (tie1 : ∀ o, callN tab 37 nmCh [bookD, rk1, .tup [one, oth]] [o] = .ok due1 [o])
    (rep : ∀ i j k, i < 6 → j < 5 → k < 4 → rOk (.lst [.tup [one, oth], .tup [f0 (hx i) (hy i j) (hz i j k), f1 (hx i) (hy i j) (hz i j k)]]) = true)
    (rd0 : rOk (.lst [due0, due0, due0]) = true) (rd1 : rOk (.lst [due1, due1, due1]) = true) (po : pairOk (zipped [rk0, rk1] [due0, due1]) = true) :
    ∃ h', callN tab 38 [95, 108, 97, 119, 95, 105, 115, 95, 114, 105, 103, 104, 116] [.ref 0, bookD, .tup [one, oth], .lst [due0, due1]] H = .ok (.bl true) h' ∧ Feed h' (n + 3) := by
  obtain ⟨o0, rfl⟩ := hF.one
  obtain ⟨r0, h1, e1, a0, a1, F1⟩ := draw_call 36 (many := 6) hF (by decide) (by decide) (by omega)
  obtain ⟨o1, rfl⟩ := F1.one
  obtain ⟨r1, h2, e2, b0, b1, F2⟩ := draw_call 36 (many := 5) F1 (by decide) (by decide) (by omega)
  obtain ⟨o2, rfl⟩ := F2.one
  obtain ⟨r2, h3, e3, c0, c1, F3⟩ := draw_call 36 (many := 4) F2 (by decide) (by decide) (by omega)
  obtain ⟨o3, rfl⟩ := F3.one
  have L0 : L6.length = 5 + 1 := rfl
  obtain ⟨p1, p2, p3⟩ := L6_pop L0 a0 (by omega)
  obtain ⟨q1, q2, q3⟩ := L6_pop (m := 4) p3 b0 (by omega)
  obtain ⟨t1, t2, t3⟩ := L6_pop (m := 3) q3 c0 (by omega)
  have w1 := fun Q E => CR.Wp_of e1 Q E
  have w2 := fun Q E => CR.Wp_of e2 Q E
  have w3 := fun Q E => CR.Wp_of e3 Q E
  have s0 := smallI_of a0 (by omega)
  have s1 := smallI_of b0 (by omega)
  have s2 := smallI_of c0 (by omega)
  have c6 : ((6 : Nat) : Int) = 6 := rfl
  have c5 : ((5 : Nat) : Int) = 5 := rfl
  have c4 : ((4 : Nat) : Int) = 4 := rfl
  have d1 : ∀ x : D, dput [] (K.i 0) x = [(.i 0, x)] := fun x => rfl
  have d2 : ∀ x y : D, dput [(K.i 0, x)] (K.i 1) y = [(.i 0, x), (.i 1, y)] := fun x y => rfl
  have d3 : ∀ x y z : D, dput [(K.i 0, x), (K.i 1, y)] (K.i 2) z = [(.i 0, x), (.i 1, y), (.i 2, z)] := fun x y z => rfl
  have g1 : r0.toNat < 6 := by omega
  have g2 : r1.toNat < 5 := by omega
  have g3 : r2.toNat < 4 := by omega
  have wl0 := fun Q E => CR.Wp_of (led0 (hx r0.toNat) (hy r0.toNat r1.toNat) (hz r0.toNat r1.toNat r2.toNat) o3) Q E
  have wl1 := fun Q E => CR.Wp_of (led1 (hx r0.toNat) (hy r0.toNat r1.toNat) (hz r0.toNat r1.toNat r2.toNat) o3) Q E
  have wa0 := fun Q E => CR.Wp_of (ask0 _ _ _ g1 g2 g3 o3) Q E
  have wa1 := fun Q E => CR.Wp_of (ask1 _ _ _ g1 g2 g3 o3) Q E
  have wt0 := fun Q E => CR.Wp_of (tie0 o3) Q E
  have wt1 := fun Q E => CR.Wp_of (tie1 o3) Q E
  have rp := rep _ _ _ g1 g2 g3
  simp only [tb, hx, hy, hz, L6] at wl0 wl1 wa0 wa1 rp
  have zp : ∀ P : List D → Prop, OptW (fZip [.lst [rk0, rk1], .lst [due0, due1]]) P = P [.tup [rk0, due0], .tup [rk1, due1]] := optW_of (by show (if pairOk (zipped [rk0, rk1] [due0, due1]) = true then some (zipped [rk0, rk1] [due0, due1]) else none) = some _; rw [if_pos po]; rfl)
  simp only [rk0, rk1] at wa0 wa1 wt0 wt1 zp
  have rp3 : ∀ x : D, List.replicate (Int.toNat 3) x = [x, x, x] := fun x => rfl
  have up3 : upto 0 (Int.toNat 3) = [.int 0, .int 1, .int 2] := rfl
  rw [call_tab (by rfl)]
  suffices hw : (runF f__law_is_right (callN tab 37) [.ref 0, bookD, .tup [one, oth], .lst [due0, due1]] [o0]).Wp (fun d h' => d = .bl true ∧ h' = [o3]) fun _ _ => False by
    obtain ⟨d, h, e, rfl, rfl⟩ := CR.Wp_ok hw
    exact ⟨_, e, by rw [show n + 3 = n + 1 + 1 + 1 by omega]; exact F3⟩
  simp only [L6, Nat.reduceAdd] at p1 p2 p3 q1 q2 q3 t1 t2 t3
  simp (disch := first | assumption | omega) only [↓w_run1, ↓gcW_same1, ↓gcW_11, noR_int, noR_str, noR_bl, noR_non, ↓gcW_le1, ↓start, ↓w_seq1, ↓w_putS1, ↓w_o11, ↓w_o21, ↓w_get1, ↓w_ex1, ↓w_pk1, ↓w_cst1, ↓w_var1, ↓varW_val1, ↓varW_own1, ↓slW_zero1, ↓slW_succ1, ↓liveW_val1, ↓liveW_own1, ↓rdW_ex1, ↓rdW_pk1, ↓vlW_val1, ↓vlW_own1, ↓p_ix_ref1, ↓obW_zero1, ↓obW_succ1, ↓ixO_dics1, ↓ixO_dici1, ↓ixO_lst1, ↓dg_cons1, ↓dg_dput1, ↓ptW_eq1, ↓ptS_own1, ↓ptS_ref1, ↓ptO_dics1, ↓ptD_dics1, ↓ptD_dici1, ↓stO_zero1, ↓stO_succ1, ↓stW_zero1, ↓stW_succ1, ↓p_add1, ↓p_sub1, ↓p_mul1, ↓p_fdiv1, ↓p_mod1, ↓p_pow1, ↓p_neg1, ↓p_lt1, ↓p_le1, ↓p_gt1, ↓p_ge1, ↓p_int1, ↓p_intb1, ↓p_isN1, ↓p_isN_int1, ↓p_isN_tup1, ↓p_isN_str1, ↓p_isN_lst1, ↓p_notN1, ↓p_notN_int1, ↓p_notN_tup1, ↓p_notN_str1, ↓p_notN_lst1, ↓p_len_lst1, ↓p_len_tup1, ↓p_len_fro1, ↓p_ix_lst1, ↓p_ix_tup1, ↓p_ix_dics1, ↓p_ix_dici1, ↓w_and1, ↓w_or1, ↓w_not1, ↓w_ite1, ↓w_chain1, ↓blW_bl1, ↓intW_int1, ↓w_cut1, ↓partW_none1, ↓partW_some1, ↓w_tup1, ↓w_lst1, ↓w_tE1, ↓w_tNot1, ↓w_tAnd1, ↓w_tOr1, ↓w_tYes1, ↓w_aNil1, ↓w_aCons1, ↓w_aStar1, ↓w_iVal1, ↓w_iArgs1, ↓tg_name1, ↓tgs_nil1, ↓tgs_cons1, ↓tg_tup1, ↓tg_lst1, ↓w_pass1, ↓w_brk1, ↓w_cont1, ↓w_ret1, ↓w_asg1, ↓w_take1, ↓w_parS1, ↓w_rowS_nil1, ↓w_rowS_cons1, ↓ptAll_nil1, ↓ptAll_cons1, ↓w_expr1, ↓w_if1, ↓w_for1, ↓w_forL_nil1, ↓w_forL_cons1, ↓w_augI1, ↓w_call1, ↓optW_some1, le_lim, lt_lim, ↓q_at0, ↓q_at1, ↓q_at2, ↓arr_nil, ↓arr_inl, ↓arr_inr, List.getElem?_cons_zero, List.getElem?_cons_succ, ↓q_isTy, ↓q_len_str, ↓q_walk_str, ↓q_in_chr, ↓q_all, ↓q_any, ↓q_eq_int, ↓w_app, ↓w_ext, ↓lstW_eq, ↓lsv_own, ↓ext_lst, ↓w_ref, ↓refW_dic, ↓refW_lst, ↓w_dic, ↓w_pairs_nil, ↓w_pairs_cons, ↓q_cut_lst, ↓q_cut_tup, ↓q_add_lst, ↓q_add_tup, ↓q_walk_lst, ↓q_walk_tup, ↓key_str, ↓key_int, List.foldl_cons, List.foldl_nil, ↓reduceIte, ownable, List.set_cons_succ, List.set_cons_zero, List.getD_cons_zero, List.getD_cons_succ, List.map_cons, List.map_nil, List.replicate, List.cons_append, List.nil_append, List.length_cons, List.length_nil, decide_eq_true_eq, K.s.injEq, K.i.injEq, List.cons.injEq, ↓q_rng1, ↓q_repr, ↓q_eq_rep, ↓q_ne_rep, abs_ten, List.length_map, List.length_append, ↓q_addL_lst, ↓q_mul_one, Nat.reducePow, Nat.reduceEqDiff, Nat.reduceAdd, Nat.reduceSub, Nat.reduceLT, Nat.reduceLeDiff, Int.reduceLT, Int.reduceLE, reduceCtorEq, false_and, and_false, and_true, true_and, Bool.not_true, Bool.not_false, Bool.false_eq_true, f__law_is_right, ↓w_newK, ↓w_popAt, up3, c6, c5, c4, ↓w1, ↓w2, ↓w3, ↓gcW_one, p3, q3, t3, ↓p1, ↓p2, ↓q1, ↓q2, ↓t1, ↓t2, s0, s1, s2, d1, d2, d3, ↓wl0, ↓wl1, ↓wa0, ↓wa1, ↓wt0, ↓wt1, ↓zp, rp3]
end Cy

set_option Elab.async false
set_option maxRecDepth 1000000
set_option maxHeartbeats 4000000
set_option linter.all false
namespace Cy
theorem tr1_get {β : Type} {f : D × D × D → β} {g : β} (e : TR1.map f = TR1.map fun _ => g) (i : Nat) (hi : i < 6) : f (hx i, .non, .non) = g := by
  refine List.map_inj_left.mp e _ (List.mem_map.mpr ⟨hx i, ?_, rfl⟩)
  have : i = 0 ∨ i = 1 ∨ i = 2 ∨ i = 3 ∨ i = 4 ∨ i = 5 := by omega
  rcases this with rfl | rfl | rfl | rfl | rfl | rfl <;> simp [hx, L6]
theorem tr2_get {β : Type} {f : D × D × D → β} {g : β} {i : Nat} (e : (TR2 i).map f = (TR2 i).map fun _ => g) (j : Nat) (hj : j < 5) : f (hx i, hy i j, .non) = g :=
  List.map_inj_left.mp e _ (List.mem_map.mpr ⟨j, List.mem_range.mpr hj, rfl⟩)
theorem tr3_get {β : Type} {f : D × D × D → β} {g : β} {i j : Nat} (e : (TR3 i j).map f = (TR3 i j).map fun _ => g) (k : Nat) (hk : k < 4) : f (hx i, hy i j, hz i j k) = g :=
  List.map_inj_left.mp e _ (List.mem_map.mpr ⟨k, List.mem_range.mpr hk, rfl⟩)
def RightOk (t d0 d1 : D) : Prop := ∀ (H : List Ob) (n : Int), Feed H n → n ≤ 1000 → ∃ h', callN tab 38 [95, 108, 97, 119, 95, 105, 115, 95, 114, 105, 103, 104, 116] [.ref 0, bookD, t, .lst [d0, d1]] H = .ok (.bl true) h' ∧ Feed h' (n + 3)
theorem ask_run {far : D → D → D → D} {tie shp x y z : D} {o : Ob} (e : askF far tie o (x, y, z) = (.ok (.bl true) [o], .ok shp [o], true)) :
    callN tab 34 nmIr [placesD, far x y z] [o] = .ok (.bl true) [o] ∧ callN tab 35 nmSh [bookD, far x y z] [o] = .ok shp [o] ∧ rOk (.lst [tie, far x y z]) = true := by
  unfold askF at e
  rw [run_F, run_F] at e
  simp only [Prod.mk.injEq] at e
  exact e
theorem right_of {tie one oth shp fm en due0 due1 o0 o1 : D} {f0 f1 far : D → D → D → D} (et : tie = .tup [one, oth]) (ef : ∀ x y z, far x y z = .tup [f0 x y z, f1 x y z]) (es : shp = .tup [fm, en]) (e0 : due0 = .tup [fm, o0]) (e1 : due1 = .tup [fm, o1])
    (led0 : ∀ x y z o, callN tab 37 nmLed [tb x y z, one] [o] = .ok (f0 x y z) [o]) (led1 : ∀ x y z o, callN tab 37 nmLed [tb x y z, oth] [o] = .ok (f1 x y z) [o])
    (ask : ∀ i j k, i < 6 → j < 5 → k < 4 → ∀ o, callN tab 34 nmIr [placesD, far (hx i) (hy i j) (hz i j k)] [o] = .ok (.bl true) [o] ∧ callN tab 35 nmSh [bookD, far (hx i) (hy i j) (hz i j k)] [o] = .ok shp [o] ∧ rOk (.lst [tie, far (hx i) (hy i j) (hz i j k)]) = true)
    (en0 : ∀ o, callN tab 35 nmEn [rk0, en] [o] = .ok o0 [o]) (en1 : ∀ o, callN tab 35 nmEn [rk1, en] [o] = .ok o1 [o]) (self : far (hx 0) (hy 0 0) (hz 0 0 0) = tie)
    (rd : (rOk (.lst [due0, due0, due0]) && rOk (.lst [due1, due1, due1])) = true) (po : pairOk (zipped [rk0, rk1] [due0, due1]) = true) : RightOk tie due0 due1 := by
  subst et es e0 e1
  rw [Bool.and_eq_true] at rd
  intro H n F hn
  have a0 : ∀ i j k, i < 6 → j < 5 → k < 4 → ∀ o, callN tab 37 nmCh [bookD, rk0, far (hx i) (hy i j) (hz i j k)] [o] = .ok (.tup [fm, o0]) [o] := fun i j k h1 h2 h3 o => let ⟨x, y, _⟩ := ask i j k h1 h2 h3 o; chain31 (rank31_0 o) x y (en0 o)
  have a1 : ∀ i j k, i < 6 → j < 5 → k < 4 → ∀ o, callN tab 37 nmCh [bookD, rk1, far (hx i) (hy i j) (hz i j k)] [o] = .ok (.tup [fm, o1]) [o] := fun i j k h1 h2 h3 o => let ⟨x, y, _⟩ := ask i j k h1 h2 h3 o; chain31 (rank31_1 o) x y (en1 o)
  have t0 := fun o => a0 0 0 0 (by decide) (by decide) (by decide) o
  have t1 := fun o => a1 0 0 0 (by decide) (by decide) (by decide) o
  rw [self] at t0 t1
  refine right31 F hn led0 led1 (fun i j k h1 h2 h3 o => ?_) (fun i j k h1 h2 h3 o => ?_) t0 t1 (fun i j k h1 h2 h3 => ?_) rd.1 rd.2 po
  · rw [← ef]; exact a0 i j k h1 h2 h3 o
  · rw [← ef]; exact a1 i j k h1 h2 h3 o
  · rw [← ef]
    obtain ⟨o, _⟩ : ∃ o : Ob, True := ⟨.dic [], trivial⟩
    exact (ask i j k h1 h2 h3 o).2.2
theorem ok0 : RightOk tie0 due0_0 due0_1 :=
  right_of (f0 := fun x y z => (.tup [(.str [105, 110, 118]), (.tup [(.str [109, 117, 108]), x, y])])) (f1 := fun x y z => (.tup [(.str [109, 117, 108]), (.tup [(.str [105, 110, 118]), y]), (.tup [(.str [105, 110, 118]), x])])) (far := far0) rfl (fun _ _ _ => rfl) rfl rfl rfl led0_0 led0_1 (fun i j k h1 h2 h3 o => by
    have : i = 0 ∨ i = 1 ∨ i = 2 ∨ i = 3 ∨ i = 4 ∨ i = 5 := by omega
    rcases this with rfl | rfl | rfl | rfl | rfl | rfl
    · exact ask_run (tr2_get (ask0_0 o) j h2)
    · exact ask_run (tr2_get (ask0_1 o) j h2)
    · exact ask_run (tr2_get (ask0_2 o) j h2)
    · exact ask_run (tr2_get (ask0_3 o) j h2)
    · exact ask_run (tr2_get (ask0_4 o) j h2)
    · exact ask_run (tr2_get (ask0_5 o) j h2)
)
  end0_0 end0_1 rfl dr0 (by decide +kernel)
theorem ok1 : RightOk tie1 due1_0 due1_1 :=
  right_of (f0 := fun x y z => (.tup [(.str [109, 117, 108]), (.tup [(.str [101])]), x])) (f1 := fun x y z => x) (far := far1) rfl (fun _ _ _ => rfl) rfl rfl rfl led1_0 led1_1 (fun i j k h1 h2 h3 o => ask_run (tr1_get (ask1 o) i h1))
  end1_0 end1_1 rfl dr1 (by decide +kernel)
theorem ok2 : RightOk tie2 due2_0 due2_1 :=
  right_of (f0 := fun x y z => x) (f1 := fun x y z => (.tup [(.str [101])])) (far := far2) rfl (fun _ _ _ => rfl) rfl rfl rfl led2_0 led2_1 (fun i j k h1 h2 h3 o => ask_run (tr1_get (ask2 o) i h1))
  end2_0 end2_1 rfl dr2 (by decide +kernel)
theorem ok3 : RightOk tie3 due3_0 due3_1 :=
  right_of (f0 := fun x y z => x) (f1 := fun x y z => x) (far := far3) rfl (fun _ _ _ => rfl) rfl rfl rfl led3_0 led3_1 (fun i j k h1 h2 h3 o => ask_run (tr1_get (ask3 o) i h1))
  end3_0 end3_1 rfl dr3 (by decide +kernel)
theorem ok4 : RightOk tie4 due4_0 due4_1 :=
  right_of (f0 := fun x y z => (.tup [(.str [109, 117, 108]), x, (.tup [(.str [101])])])) (f1 := fun x y z => (.tup [(.str [109, 117, 108]), x, (.tup [(.str [101])])])) (far := far4) rfl (fun _ _ _ => rfl) rfl rfl rfl led4_0 led4_1 (fun i j k h1 h2 h3 o => ask_run (tr1_get (ask4 o) i h1))
  end4_0 end4_1 rfl dr4 (by decide +kernel)
theorem ok5 : RightOk tie5 due5_0 due5_1 :=
  right_of (f0 := fun x y z => (.tup [(.str [101])])) (f1 := fun x y z => x) (far := far5) rfl (fun _ _ _ => rfl) rfl rfl rfl led5_0 led5_1 (fun i j k h1 h2 h3 o => ask_run (tr1_get (ask5 o) i h1))
  end5_0 end5_1 rfl dr5 (by decide +kernel)
theorem ok6 : RightOk tie6 due6_0 due6_1 :=
  right_of (f0 := fun x y z => (.tup [(.str [105, 110, 118]), (.tup [(.str [105, 110, 118]), x])])) (f1 := fun x y z => (.tup [(.str [109, 117, 108]), x, x])) (far := far6) rfl (fun _ _ _ => rfl) rfl rfl rfl led6_0 led6_1 (fun i j k h1 h2 h3 o => ask_run (tr1_get (ask6 o) i h1))
  end6_0 end6_1 rfl dr6 (by decide +kernel)
theorem ok7 : RightOk tie7 due7_0 due7_1 :=
  right_of (f0 := fun x y z => (.tup [(.str [109, 117, 108]), (.tup [(.str [109, 117, 108]), x, y]), z])) (f1 := fun x y z => (.tup [(.str [109, 117, 108]), x, (.tup [(.str [109, 117, 108]), y, z])])) (far := far7) rfl (fun _ _ _ => rfl) rfl rfl rfl led7_0 led7_1 (fun i j k h1 h2 h3 o => by
    have : i = 0 ∨ i = 1 ∨ i = 2 ∨ i = 3 ∨ i = 4 ∨ i = 5 := by omega
    have : j = 0 ∨ j = 1 ∨ j = 2 ∨ j = 3 ∨ j = 4 := by omega
    rcases ‹i = 0 ∨ _› with rfl | rfl | rfl | rfl | rfl | rfl <;> rcases ‹j = 0 ∨ _› with rfl | rfl | rfl | rfl | rfl
    · exact ask_run (tr3_get (ask7_0_0 o) k h3)
    · exact ask_run (tr3_get (ask7_0_1 o) k h3)
    · exact ask_run (tr3_get (ask7_0_2 o) k h3)
    · exact ask_run (tr3_get (ask7_0_3 o) k h3)
    · exact ask_run (tr3_get (ask7_0_4 o) k h3)
    · exact ask_run (tr3_get (ask7_1_0 o) k h3)
    · exact ask_run (tr3_get (ask7_1_1 o) k h3)
    · exact ask_run (tr3_get (ask7_1_2 o) k h3)
    · exact ask_run (tr3_get (ask7_1_3 o) k h3)
    · exact ask_run (tr3_get (ask7_1_4 o) k h3)
    · exact ask_run (tr3_get (ask7_2_0 o) k h3)
    · exact ask_run (tr3_get (ask7_2_1 o) k h3)
    · exact ask_run (tr3_get (ask7_2_2 o) k h3)
    · exact ask_run (tr3_get (ask7_2_3 o) k h3)
    · exact ask_run (tr3_get (ask7_2_4 o) k h3)
    · exact ask_run (tr3_get (ask7_3_0 o) k h3)
    · exact ask_run (tr3_get (ask7_3_1 o) k h3)
    · exact ask_run (tr3_get (ask7_3_2 o) k h3)
    · exact ask_run (tr3_get (ask7_3_3 o) k h3)
    · exact ask_run (tr3_get (ask7_3_4 o) k h3)
    · exact ask_run (tr3_get (ask7_4_0 o) k h3)
    · exact ask_run (tr3_get (ask7_4_1 o) k h3)
    · exact ask_run (tr3_get (ask7_4_2 o) k h3)
    · exact ask_run (tr3_get (ask7_4_3 o) k h3)
    · exact ask_run (tr3_get (ask7_4_4 o) k h3)
    · exact ask_run (tr3_get (ask7_5_0 o) k h3)
    · exact ask_run (tr3_get (ask7_5_1 o) k h3)
    · exact ask_run (tr3_get (ask7_5_2 o) k h3)
    · exact ask_run (tr3_get (ask7_5_3 o) k h3)
    · exact ask_run (tr3_get (ask7_5_4 o) k h3)
)
  end7_0 end7_1 rfl dr7 (by decide +kernel)
theorem ok8 : RightOk tie8 due8_0 due8_1 :=
  right_of (f0 := fun x y z => (.tup [(.str [109, 117, 108]), x, (.tup [(.str [109, 117, 108]), y, z])])) (f1 := fun x y z => (.tup [(.str [109, 117, 108]), (.tup [(.str [109, 117, 108]), x, y]), z])) (far := far8) rfl (fun _ _ _ => rfl) rfl rfl rfl led8_0 led8_1 (fun i j k h1 h2 h3 o => by
    have : i = 0 ∨ i = 1 ∨ i = 2 ∨ i = 3 ∨ i = 4 ∨ i = 5 := by omega
    have : j = 0 ∨ j = 1 ∨ j = 2 ∨ j = 3 ∨ j = 4 := by omega
    rcases ‹i = 0 ∨ _› with rfl | rfl | rfl | rfl | rfl | rfl <;> rcases ‹j = 0 ∨ _› with rfl | rfl | rfl | rfl | rfl
    · exact ask_run (tr3_get (ask8_0_0 o) k h3)
    · exact ask_run (tr3_get (ask8_0_1 o) k h3)
    · exact ask_run (tr3_get (ask8_0_2 o) k h3)
    · exact ask_run (tr3_get (ask8_0_3 o) k h3)
    · exact ask_run (tr3_get (ask8_0_4 o) k h3)
    · exact ask_run (tr3_get (ask8_1_0 o) k h3)
    · exact ask_run (tr3_get (ask8_1_1 o) k h3)
    · exact ask_run (tr3_get (ask8_1_2 o) k h3)
    · exact ask_run (tr3_get (ask8_1_3 o) k h3)
    · exact ask_run (tr3_get (ask8_1_4 o) k h3)
    · exact ask_run (tr3_get (ask8_2_0 o) k h3)
    · exact ask_run (tr3_get (ask8_2_1 o) k h3)
    · exact ask_run (tr3_get (ask8_2_2 o) k h3)
    · exact ask_run (tr3_get (ask8_2_3 o) k h3)
    · exact ask_run (tr3_get (ask8_2_4 o) k h3)
    · exact ask_run (tr3_get (ask8_3_0 o) k h3)
    · exact ask_run (tr3_get (ask8_3_1 o) k h3)
    · exact ask_run (tr3_get (ask8_3_2 o) k h3)
    · exact ask_run (tr3_get (ask8_3_3 o) k h3)
    · exact ask_run (tr3_get (ask8_3_4 o) k h3)
    · exact ask_run (tr3_get (ask8_4_0 o) k h3)
    · exact ask_run (tr3_get (ask8_4_1 o) k h3)
    · exact ask_run (tr3_get (ask8_4_2 o) k h3)
    · exact ask_run (tr3_get (ask8_4_3 o) k h3)
    · exact ask_run (tr3_get (ask8_4_4 o) k h3)
    · exact ask_run (tr3_get (ask8_5_0 o) k h3)
    · exact ask_run (tr3_get (ask8_5_1 o) k h3)
    · exact ask_run (tr3_get (ask8_5_2 o) k h3)
    · exact ask_run (tr3_get (ask8_5_3 o) k h3)
    · exact ask_run (tr3_get (ask8_5_4 o) k h3)
)
  end8_0 end8_1 rfl dr8 (by decide +kernel)
theorem ok9 : RightOk tie9 due9_0 due9_1 :=
  right_of (f0 := fun x y z => (.tup [(.str [109, 117, 108]), x, y])) (f1 := fun x y z => (.tup [(.str [109, 117, 108]), y, x])) (far := far9) rfl (fun _ _ _ => rfl) rfl rfl rfl led9_0 led9_1 (fun i j k h1 h2 h3 o => by
    have : i = 0 ∨ i = 1 ∨ i = 2 ∨ i = 3 ∨ i = 4 ∨ i = 5 := by omega
    rcases this with rfl | rfl | rfl | rfl | rfl | rfl
    · exact ask_run (tr2_get (ask9_0 o) j h2)
    · exact ask_run (tr2_get (ask9_1 o) j h2)
    · exact ask_run (tr2_get (ask9_2 o) j h2)
    · exact ask_run (tr2_get (ask9_3 o) j h2)
    · exact ask_run (tr2_get (ask9_4 o) j h2)
    · exact ask_run (tr2_get (ask9_5 o) j h2)
)
  end9_0 end9_1 rfl dr9 (by decide +kernel)
theorem ok10 : RightOk tie10 due10_0 due10_1 :=
  right_of (f0 := fun x y z => (.tup [(.str [109, 117, 108]), (.tup [(.str [105, 110, 118]), x]), y])) (f1 := fun x y z => (.tup [(.str [109, 117, 108]), x, (.tup [(.str [105, 110, 118]), y])])) (far := far10) rfl (fun _ _ _ => rfl) rfl rfl rfl led10_0 led10_1 (fun i j k h1 h2 h3 o => by
    have : i = 0 ∨ i = 1 ∨ i = 2 ∨ i = 3 ∨ i = 4 ∨ i = 5 := by omega
    rcases this with rfl | rfl | rfl | rfl | rfl | rfl
    · exact ask_run (tr2_get (ask10_0 o) j h2)
    · exact ask_run (tr2_get (ask10_1 o) j h2)
    · exact ask_run (tr2_get (ask10_2 o) j h2)
    · exact ask_run (tr2_get (ask10_3 o) j h2)
    · exact ask_run (tr2_get (ask10_4 o) j h2)
    · exact ask_run (tr2_get (ask10_5 o) j h2)
)
  end10_0 end10_1 rfl dr10 (by decide +kernel)
theorem ok11 : RightOk tie11 due11_0 due11_1 :=
  right_of (f0 := fun x y z => (.tup [(.str [109, 117, 108]), x, x])) (f1 := fun x y z => (.tup [(.str [105, 110, 118]), x])) (far := far11) rfl (fun _ _ _ => rfl) rfl rfl rfl led11_0 led11_1 (fun i j k h1 h2 h3 o => ask_run (tr1_get (ask11 o) i h1))
  end11_0 end11_1 rfl dr11 (by decide +kernel)
theorem ok12 : RightOk tie12 due12_0 due12_1 :=
  right_of (f0 := fun x y z => (.tup [(.str [109, 117, 108]), (.tup [(.str [109, 117, 108]), (.tup [(.str [101])]), x]), (.tup [(.str [101])])])) (f1 := fun x y z => (.tup [(.str [109, 117, 108]), (.tup [(.str [109, 117, 108]), (.tup [(.str [101])]), x]), (.tup [(.str [105, 110, 118]), (.tup [(.str [101])])])])) (far := far12) rfl (fun _ _ _ => rfl) rfl rfl rfl led12_0 led12_1 (fun i j k h1 h2 h3 o => ask_run (tr1_get (ask12 o) i h1))
  end12_0 end12_1 rfl dr12 (by decide +kernel)
theorem ok13 : RightOk tie13 due13_0 due13_1 :=
  right_of (f0 := fun x y z => (.tup [(.str [109, 117, 108]), (.tup [(.str [101])]), (.tup [(.str [105, 110, 118]), x])])) (f1 := fun x y z => (.tup [(.str [109, 117, 108]), (.tup [(.str [105, 110, 118]), (.tup [(.str [101])])]), x])) (far := far13) rfl (fun _ _ _ => rfl) rfl rfl rfl led13_0 led13_1 (fun i j k h1 h2 h3 o => ask_run (tr1_get (ask13 o) i h1))
  end13_0 end13_1 rfl dr13 (by decide +kernel)
theorem ok14 : RightOk tie14 due14_0 due14_1 :=
  right_of (f0 := fun x y z => (.tup [(.str [109, 117, 108]), (.tup [(.str [105, 110, 118]), (.tup [(.str [101])])]), x])) (f1 := fun x y z => (.tup [(.str [109, 117, 108]), (.tup [(.str [101])]), (.tup [(.str [105, 110, 118]), x])])) (far := far14) rfl (fun _ _ _ => rfl) rfl rfl rfl led14_0 led14_1 (fun i j k h1 h2 h3 o => ask_run (tr1_get (ask14 o) i h1))
  end14_0 end14_1 rfl dr14 (by decide +kernel)
theorem ok15 : RightOk tie15 due15_0 due15_1 :=
  right_of (f0 := fun x y z => (.tup [(.str [109, 117, 108]), x, (.tup [(.str [109, 117, 108]), y, y])])) (f1 := fun x y z => (.tup [(.str [109, 117, 108]), (.tup [(.str [105, 110, 118]), y]), x])) (far := far15) rfl (fun _ _ _ => rfl) rfl rfl rfl led15_0 led15_1 (fun i j k h1 h2 h3 o => by
    have : i = 0 ∨ i = 1 ∨ i = 2 ∨ i = 3 ∨ i = 4 ∨ i = 5 := by omega
    rcases this with rfl | rfl | rfl | rfl | rfl | rfl
    · exact ask_run (tr2_get (ask15_0 o) j h2)
    · exact ask_run (tr2_get (ask15_1 o) j h2)
    · exact ask_run (tr2_get (ask15_2 o) j h2)
    · exact ask_run (tr2_get (ask15_3 o) j h2)
    · exact ask_run (tr2_get (ask15_4 o) j h2)
    · exact ask_run (tr2_get (ask15_5 o) j h2)
)
  end15_0 end15_1 rfl dr15 (by decide +kernel)
theorem ok16 : RightOk tie16 due16_0 due16_1 :=
  right_of (f0 := fun x y z => (.tup [(.str [109, 117, 108]), (.tup [(.str [105, 110, 118]), x]), (.tup [(.str [105, 110, 118]), y])])) (f1 := fun x y z => (.tup [(.str [109, 117, 108]), (.tup [(.str [105, 110, 118]), x]), (.tup [(.str [105, 110, 118]), x])])) (far := far16) rfl (fun _ _ _ => rfl) rfl rfl rfl led16_0 led16_1 (fun i j k h1 h2 h3 o => by
    have : i = 0 ∨ i = 1 ∨ i = 2 ∨ i = 3 ∨ i = 4 ∨ i = 5 := by omega
    rcases this with rfl | rfl | rfl | rfl | rfl | rfl
    · exact ask_run (tr2_get (ask16_0 o) j h2)
    · exact ask_run (tr2_get (ask16_1 o) j h2)
    · exact ask_run (tr2_get (ask16_2 o) j h2)
    · exact ask_run (tr2_get (ask16_3 o) j h2)
    · exact ask_run (tr2_get (ask16_4 o) j h2)
    · exact ask_run (tr2_get (ask16_5 o) j h2)
)
  end16_0 end16_1 rfl dr16 (by decide +kernel)
end Cy

set_option Elab.async false
set_option maxRecDepth 1000000
set_option maxHeartbeats 1000000
set_option linter.all false
namespace Cy
def rest31 : Bl := (seq (asg (gName 6) (tupE (aCons (tupE (aCons (cst (.str [97])) (aCons (cst (.int 0)) aNil))) (aCons (tupE (aCons (cst (.str [102])) (aCons (cst (.int 1)) aNil))) (aCons (tupE (aCons (cst (.str [107])) (aCons (cst (.int 3)) aNil))) aNil))))) (seq (asg (gTup [(gName 7), (gName 8)]) (tupE (aCons (tupE (aCons (cst (.str [107])) (aCons (cst (.int 0)) (aCons (tupE (aCons (cst (.str [102])) (aCons (cst (.int 1)) aNil))) (aCons (tupE (aCons (cst (.str [97])) aNil)) aNil))))) (aCons (tupE (aCons (cst (.str [107])) (aCons (cst (.int 0)) (aCons (tupE (aCons (cst (.str [102])) (aCons (tupE (aCons (cst (.str [97])) aNil)) aNil))) (aCons (cst (.int 1)) aNil))))) aNil)))) (seq (asg (gName 9) (lstE (aCons (callK [99, 104, 97, 105, 110, 95, 111, 102] 3 (aCons (var 6) (aCons (tupE (aCons (cst (.str [102])) (aCons (cst (.str [107])) (aCons (cst (.str [97])) aNil)))) (aCons (tupE (aCons (var 7) (aCons (var 8) aNil))) aNil))) aNil [.inl 0, .inl 1, .inl 2]) (aCons (callK [99, 104, 97, 105, 110, 95, 111, 102] 3 (aCons (var 6) (aCons (tupE (aCons (cst (.str [102])) (aCons (cst (.str [107])) (aCons (cst (.str [97])) aNil)))) (aCons (tupE (aCons (var 8) (aCons (var 7) aNil))) aNil))) aNil [.inl 0, .inl 1, .inl 2]) aNil)))) (ret (o2 (fun _ => dEq) (.ex (o1 (fun _ => dRepr) (.pk 9))) (.ex (o1 (fun _ => dRepr) (.ex (lstE (aCons (tupE (aCons (tupE (aCons (tupE (aCons (cst (.int 0)) (aCons (cst (.int 0)) (aCons (cst (.int 0)) (aCons (cst (.int 0)) aNil))))) (aCons (tupE (aCons (cst (.int 1)) (aCons (o1 (fun _ => dNeg) (.ex (cst (.int 1)))) (aCons (cst (.int 0)) (aCons (cst (.int 0)) aNil))))) aNil))) (aCons (cst (.str [104, 111, 108, 101])) aNil))) (aCons (tupE (aCons (tupE (aCons (tupE (aCons (cst (.int 0)) (aCons (cst (.int 0)) (aCons (cst (.int 0)) (aCons (cst (.int 0)) aNil))))) aNil)) (aCons (cst (.str [104, 111, 108, 101, 115])) aNil))) aNil)))))))))))
noncomputable def restF31 : Bl := (seq (asg (gNameF 6) (tupEF (aCons (tupEF (aCons (cst (.str [97])) (aCons (cst (.int 0)) aNil))) (aCons (tupEF (aCons (cst (.str [102])) (aCons (cst (.int 1)) aNil))) (aCons (tupEF (aCons (cst (.str [107])) (aCons (cst (.int 3)) aNil))) aNil))))) (seq (asg (gTupF [(gNameF 7), (gNameF 8)]) (tupEF (aCons (tupEF (aCons (cst (.str [107])) (aCons (cst (.int 0)) (aCons (tupEF (aCons (cst (.str [102])) (aCons (cst (.int 1)) aNil))) (aCons (tupEF (aCons (cst (.str [97])) aNil)) aNil))))) (aCons (tupEF (aCons (cst (.str [107])) (aCons (cst (.int 0)) (aCons (tupEF (aCons (cst (.str [102])) (aCons (tupEF (aCons (cst (.str [97])) aNil)) aNil))) (aCons (cst (.int 1)) aNil))))) aNil)))) (seq (asg (gNameF 9) (lstEF (aCons (callKF [99, 104, 97, 105, 110, 95, 111, 102] 3 (aCons (varF 6) (aCons (tupEF (aCons (cst (.str [102])) (aCons (cst (.str [107])) (aCons (cst (.str [97])) aNil)))) (aCons (tupEF (aCons (varF 7) (aCons (varF 8) aNil))) aNil))) aNil [.inl 0, .inl 1, .inl 2]) (aCons (callKF [99, 104, 97, 105, 110, 95, 111, 102] 3 (aCons (varF 6) (aCons (tupEF (aCons (cst (.str [102])) (aCons (cst (.str [107])) (aCons (cst (.str [97])) aNil)))) (aCons (tupEF (aCons (varF 8) (aCons (varF 7) aNil))) aNil))) aNil [.inl 0, .inl 1, .inl 2]) aNil)))) (ret (o2F (fun _ => dEq) (.ex (o1F (fun _ => dRepr) (.pk 9))) (.ex (o1F (fun _ => dRepr) (.ex (lstEF (aCons (tupEF (aCons (tupEF (aCons (tupEF (aCons (cst (.int 0)) (aCons (cst (.int 0)) (aCons (cst (.int 0)) (aCons (cst (.int 0)) aNil))))) (aCons (tupEF (aCons (cst (.int 1)) (aCons (o1F (fun _ => dNeg) (.ex (cst (.int 1)))) (aCons (cst (.int 0)) (aCons (cst (.int 0)) aNil))))) aNil))) (aCons (cst (.str [104, 111, 108, 101])) aNil))) (aCons (tupEF (aCons (tupEF (aCons (tupEF (aCons (cst (.int 0)) (aCons (cst (.int 0)) (aCons (cst (.int 0)) (aCons (cst (.int 0)) aNil))))) aNil)) (aCons (cst (.str [104, 111, 108, 101, 115])) aNil))) aNil)))))))))))
theorem restF31_eq : restF31 = rest31 := by unfold restF31 rest31; simp only [varF_eq, o1F_eq, o2F_eq, cutEF_eq, aStarF_eq, tupEF_eq, lstEF_eq, gNameF_eq, gTupF_eq, fEnumF_eq, fZipF_eq, dLzipF_eq, fRng1F_eq, fRng2F_eq, forSF_eq, whileSF_eq, compF_eq, callKF_eq, takeF_eq, appEF_eq, extEF_eq, dAddF_eq, dLenF_eq, dIxF_eq]
theorem rest_run (a0 a1 a2 a3 a4 a5 a6 a7 a8 a9 : Sl) (o : Ob) : rest31 (callN tab 38) ⟨[a0, a1, a2, a3, a4, a5, a6, a7, a8, a9], [o]⟩ = .rt (.bl true) [o] := by
  rw [← restF31_eq, ← run_F]
  kernel_rfl
def chL : List D := [.tup [tie0, due0_0, due0_1], .tup [tie1, due1_0, due1_1], .tup [tie2, due2_0, due2_1], .tup [tie3, due3_0, due3_1], .tup [tie4, due4_0, due4_1], .tup [tie5, due5_0, due5_1], .tup [tie6, due6_0, due6_1], .tup [tie7, due7_0, due7_1], .tup [tie8, due8_0, due8_1], .tup [tie9, due9_0, due9_1], .tup [tie10, due10_0, due10_1], .tup [tie11, due11_0, due11_1], .tup [tie12, due12_0, due12_1], .tup [tie13, due13_0, due13_1], .tup [tie14, due14_0, due14_1], .tup [tie15, due15_0, due15_1], .tup [tie16, due16_0, due16_1]]
theorem chains_call (o : Ob) : callN tab 38 [95, 108, 97, 119, 95, 99, 104, 97, 105, 110, 115] [] [o] = .ok (.lst chL) [o] := by rw [← run_F]; kernel_rfl
theorem limits_call (o : Ob) : callN tab 38 [95, 108, 97, 119, 95, 97, 114, 101, 95, 108, 105, 109, 105, 116, 115] [] [o] = .ok (.bl true) [o] := by rw [← run_F]; kernel_rfl
theorem chL_ok : ∀ d ∈ chL, ∃ t a b, d = .tup [t, a, b] ∧ RightOk t a b := by
  intro d hd
  simp only [chL, List.mem_cons, List.not_mem_nil, or_false] at hd
  rcases hd with rfl | rfl | rfl | rfl | rfl | rfl | rfl | rfl | rfl | rfl | rfl | rfl | rfl | rfl | rfl | rfl | rfl
  · exact ⟨_, _, _, rfl, ok0⟩
  · exact ⟨_, _, _, rfl, ok1⟩
  · exact ⟨_, _, _, rfl, ok2⟩
  · exact ⟨_, _, _, rfl, ok3⟩
  · exact ⟨_, _, _, rfl, ok4⟩
  · exact ⟨_, _, _, rfl, ok5⟩
  · exact ⟨_, _, _, rfl, ok6⟩
  · exact ⟨_, _, _, rfl, ok7⟩
  · exact ⟨_, _, _, rfl, ok8⟩
  · exact ⟨_, _, _, rfl, ok9⟩
  · exact ⟨_, _, _, rfl, ok10⟩
  · exact ⟨_, _, _, rfl, ok11⟩
  · exact ⟨_, _, _, rfl, ok12⟩
  · exact ⟨_, _, _, rfl, ok13⟩
  · exact ⟨_, _, _, rfl, ok14⟩
  · exact ⟨_, _, _, rfl, ok15⟩
  · exact ⟨_, _, _, rfl, ok16⟩
theorem Fl.Wp_rt {f : Fl} {d : D} {h : List Ob} (e : f = .rt d h) (K : En) : f.Wp K = K.rt d h := by rw [e, FlWp_eq]; rfl
theorem law_run (ns : List Int) (hl : ns.length ≤ 63) : ∃ h, callN tab 39 [108, 97, 119] [scriptD ns] [] = .ok (.bl true) h := by
  have e0 : callN tab 39 [108, 97, 119] [scriptD ns] [] = runF f_law (callN tab 38) [scriptD ns] [] := call_tab (by rfl) _ _
  rw [e0]
  obtain ⟨h0, e1, F0⟩ := feed_call 37 ns hl
  obtain ⟨o0, rfl⟩ := F0.one
  have w1 := fun Q E => CR.Wp_of e1 Q E
  have w2 := fun Q E => CR.Wp_of (limits_call o0) Q E
  have w3 := fun Q E => CR.Wp_of (chains_call o0) Q E
  suffices hw : (runF f_law (callN tab 38) [scriptD ns] []).Wp (fun d _ => d = .bl true) fun _ _ => False by
    obtain ⟨d, h, e, rfl⟩ := CR.Wp_ok hw
    exact ⟨h, e⟩
  simp (disch := first | assumption | omega) only [↓w_run1, ↓gcW_same1, ↓gcW_11, noR_int, noR_str, noR_bl, noR_non, ↓gcW_le1, ↓start, ↓w_seq1, ↓w_putS1, ↓w_o11, ↓w_o21, ↓w_get1, ↓w_ex1, ↓w_pk1, ↓w_cst1, ↓w_var1, ↓varW_val1, ↓varW_own1, ↓slW_zero1, ↓slW_succ1, ↓liveW_val1, ↓liveW_own1, ↓rdW_ex1, ↓rdW_pk1, ↓vlW_val1, ↓vlW_own1, ↓p_ix_ref1, ↓obW_zero1, ↓obW_succ1, ↓ixO_dics1, ↓ixO_dici1, ↓ixO_lst1, ↓dg_cons1, ↓dg_dput1, ↓ptW_eq1, ↓ptS_own1, ↓ptS_ref1, ↓ptO_dics1, ↓ptD_dics1, ↓ptD_dici1, ↓stO_zero1, ↓stO_succ1, ↓stW_zero1, ↓stW_succ1, ↓p_add1, ↓p_sub1, ↓p_mul1, ↓p_fdiv1, ↓p_mod1, ↓p_pow1, ↓p_neg1, ↓p_lt1, ↓p_le1, ↓p_gt1, ↓p_ge1, ↓p_int1, ↓p_intb1, ↓p_isN1, ↓p_isN_int1, ↓p_isN_tup1, ↓p_isN_str1, ↓p_isN_lst1, ↓p_notN1, ↓p_notN_int1, ↓p_notN_tup1, ↓p_notN_str1, ↓p_notN_lst1, ↓p_len_lst1, ↓p_len_tup1, ↓p_len_fro1, ↓p_ix_lst1, ↓p_ix_tup1, ↓p_ix_dics1, ↓p_ix_dici1, ↓w_and1, ↓w_or1, ↓w_not1, ↓w_ite1, ↓w_chain1, ↓blW_bl1, ↓intW_int1, ↓w_cut1, ↓partW_none1, ↓partW_some1, ↓w_tup1, ↓w_lst1, ↓w_tE1, ↓w_tNot1, ↓w_tAnd1, ↓w_tOr1, ↓w_tYes1, ↓w_aNil1, ↓w_aCons1, ↓w_aStar1, ↓w_iVal1, ↓w_iArgs1, ↓tg_name1, ↓tgs_nil1, ↓tgs_cons1, ↓tg_tup1, ↓tg_lst1, ↓w_pass1, ↓w_brk1, ↓w_cont1, ↓w_ret1, ↓w_asg1, ↓w_take1, ↓w_parS1, ↓w_rowS_nil1, ↓w_rowS_cons1, ↓ptAll_nil1, ↓ptAll_cons1, ↓w_expr1, ↓w_if1, ↓w_for1, ↓w_forL_nil1, ↓w_forL_cons1, ↓w_augI1, ↓w_call1, ↓optW_some1, le_lim, lt_lim, ↓q_at0, ↓q_at1, ↓q_at2, ↓arr_nil, ↓arr_inl, ↓arr_inr, List.getElem?_cons_zero, List.getElem?_cons_succ, ↓q_isTy, ↓q_len_str, ↓q_walk_str, ↓q_in_chr, ↓q_all, ↓q_any, ↓q_eq_int, ↓w_app, ↓w_ext, ↓lstW_eq, ↓lsv_own, ↓ext_lst, ↓w_ref, ↓refW_dic, ↓refW_lst, ↓w_dic, ↓w_pairs_nil, ↓w_pairs_cons, ↓q_cut_lst, ↓q_cut_tup, ↓q_add_lst, ↓q_add_tup, ↓q_walk_lst, ↓q_walk_tup, ↓key_str, ↓key_int, List.foldl_cons, List.foldl_nil, ↓reduceIte, ownable, List.set_cons_succ, List.set_cons_zero, List.getD_cons_zero, List.getD_cons_succ, List.map_cons, List.map_nil, List.replicate, List.cons_append, List.nil_append, List.length_cons, List.length_nil, decide_eq_true_eq, K.s.injEq, K.i.injEq, List.cons.injEq, ↓q_rng1, ↓q_repr, ↓q_eq_rep, ↓q_ne_rep, abs_ten, List.length_map, List.length_append, ↓q_addL_lst, ↓q_mul_one, Nat.reducePow, Nat.reduceEqDiff, Nat.reduceAdd, Nat.reduceSub, Nat.reduceLT, Nat.reduceLeDiff, Int.reduceLT, Int.reduceLE, reduceCtorEq, false_and, and_false, and_true, true_and, Bool.not_true, Bool.not_false, Bool.false_eq_true, f_law, ↓w1, ↓w2, ↓w3]
  refine forL_l (fun xs s => ∃ a0 a1 a3 a4 a5 a6 a7 a8 a9 h m, s = ⟨[a0, .val (.ref 0), .val bookD, a3, a4, a5, a6, a7, a8, a9], h⟩ ∧ a0 = a1 ∧ Feed h m ∧ m + 3 * xs.length ≤ 60 ∧ ∀ d ∈ xs, ∃ t a b, d = .tup [t, a, b] ∧ RightOk t a b) ?_ ?_ _ _ ?_
  · rintro x xs s ⟨a0, a1, a3, a4, a5, a6, a7, a8, a9, h, m, rfl, _, F, hm, ok⟩
    obtain ⟨t, a, b, rfl, r⟩ := ok x List.mem_cons_self
    simp only [List.length_cons] at hm
    obtain ⟨h', er, F'⟩ := r h m F (by omega)
    have wr := fun Q E => CR.Wp_of er Q E
    simp (disch := first | assumption | omega) only [↓w_run1, ↓gcW_same1, ↓gcW_11, noR_int, noR_str, noR_bl, noR_non, ↓gcW_le1, ↓start, ↓w_seq1, ↓w_putS1, ↓w_o11, ↓w_o21, ↓w_get1, ↓w_ex1, ↓w_pk1, ↓w_cst1, ↓w_var1, ↓varW_val1, ↓varW_own1, ↓slW_zero1, ↓slW_succ1, ↓liveW_val1, ↓liveW_own1, ↓rdW_ex1, ↓rdW_pk1, ↓vlW_val1, ↓vlW_own1, ↓p_ix_ref1, ↓obW_zero1, ↓obW_succ1, ↓ixO_dics1, ↓ixO_dici1, ↓ixO_lst1, ↓dg_cons1, ↓dg_dput1, ↓ptW_eq1, ↓ptS_own1, ↓ptS_ref1, ↓ptO_dics1, ↓ptD_dics1, ↓ptD_dici1, ↓stO_zero1, ↓stO_succ1, ↓stW_zero1, ↓stW_succ1, ↓p_add1, ↓p_sub1, ↓p_mul1, ↓p_fdiv1, ↓p_mod1, ↓p_pow1, ↓p_neg1, ↓p_lt1, ↓p_le1, ↓p_gt1, ↓p_ge1, ↓p_int1, ↓p_intb1, ↓p_isN1, ↓p_isN_int1, ↓p_isN_tup1, ↓p_isN_str1, ↓p_isN_lst1, ↓p_notN1, ↓p_notN_int1, ↓p_notN_tup1, ↓p_notN_str1, ↓p_notN_lst1, ↓p_len_lst1, ↓p_len_tup1, ↓p_len_fro1, ↓p_ix_lst1, ↓p_ix_tup1, ↓p_ix_dics1, ↓p_ix_dici1, ↓w_and1, ↓w_or1, ↓w_not1, ↓w_ite1, ↓w_chain1, ↓blW_bl1, ↓intW_int1, ↓w_cut1, ↓partW_none1, ↓partW_some1, ↓w_tup1, ↓w_lst1, ↓w_tE1, ↓w_tNot1, ↓w_tAnd1, ↓w_tOr1, ↓w_tYes1, ↓w_aNil1, ↓w_aCons1, ↓w_aStar1, ↓w_iVal1, ↓w_iArgs1, ↓tg_name1, ↓tgs_nil1, ↓tgs_cons1, ↓tg_tup1, ↓tg_lst1, ↓w_pass1, ↓w_brk1, ↓w_cont1, ↓w_ret1, ↓w_asg1, ↓w_take1, ↓w_parS1, ↓w_rowS_nil1, ↓w_rowS_cons1, ↓ptAll_nil1, ↓ptAll_cons1, ↓w_expr1, ↓w_if1, ↓w_for1, ↓w_forL_nil1, ↓w_forL_cons1, ↓w_augI1, ↓w_call1, ↓optW_some1, le_lim, lt_lim, ↓q_at0, ↓q_at1, ↓q_at2, ↓arr_nil, ↓arr_inl, ↓arr_inr, List.getElem?_cons_zero, List.getElem?_cons_succ, ↓q_isTy, ↓q_len_str, ↓q_walk_str, ↓q_in_chr, ↓q_all, ↓q_any, ↓q_eq_int, ↓w_app, ↓w_ext, ↓lstW_eq, ↓lsv_own, ↓ext_lst, ↓w_ref, ↓refW_dic, ↓refW_lst, ↓w_dic, ↓w_pairs_nil, ↓w_pairs_cons, ↓q_cut_lst, ↓q_cut_tup, ↓q_add_lst, ↓q_add_tup, ↓q_walk_lst, ↓q_walk_tup, ↓key_str, ↓key_int, List.foldl_cons, List.foldl_nil, ↓reduceIte, ownable, List.set_cons_succ, List.set_cons_zero, List.getD_cons_zero, List.getD_cons_succ, List.map_cons, List.map_nil, List.replicate, List.cons_append, List.nil_append, List.length_cons, List.length_nil, decide_eq_true_eq, K.s.injEq, K.i.injEq, List.cons.injEq, ↓q_rng1, ↓q_repr, ↓q_eq_rep, ↓q_ne_rep, abs_ten, List.length_map, List.length_append, ↓q_addL_lst, ↓q_mul_one, Nat.reducePow, Nat.reduceEqDiff, Nat.reduceAdd, Nat.reduceSub, Nat.reduceLT, Nat.reduceLeDiff, Int.reduceLT, Int.reduceLE, reduceCtorEq, false_and, and_false, and_true, true_and, Bool.not_true, Bool.not_false, Bool.false_eq_true, ↓wr]
    exact ⟨_, _, _, _, _, _, _, _, _, _, m + 3, rfl, rfl, F', by omega, fun d hd => ok d (List.mem_cons_of_mem _ hd)⟩
  · rintro s ⟨a0, a1, a3, a4, a5, a6, a7, a8, a9, h, m, rfl, _, F, _⟩
    obtain ⟨o, rfl⟩ := F.one
    have rr := fun K => Fl.Wp_rt (rest_run a0 (.val (.ref 0)) (.val bookD) a3 a4 a5 a6 a7 a8 a9 o) K
    unfold rest31 at rr
    simp only []
    rw [rr]
    exact gcW_all fun _ => rfl
  · exact ⟨_, _, _, _, _, _, _, _, _, _, 0, rfl, rfl, F0, by decide, chL_ok⟩
end Cy

set_option Elab.async false
set_option linter.all false
set_option maxRecDepth 100000
namespace Hd
open L2 PySem PySem.Spec PyProof.Rows
/-- a written default -/
def dvE : Expr → He.Dv
  | .Constant (.int i) _ _ => .int i
  | .Constant (.str x) _ _ => .str x
  | .Constant (.bool x) _ _ => .bl x
  | .UnaryOp .USub (.Constant (.int i) _ _) _ => .int (-i)
  | .Name x _ => .glo x
  | _ => .non
def dd1 : Stmt → List He.DefD
  | .FunctionDef n a b _ _ _ sc _ _ _ => [⟨(n, none), n, n, a, b, sc, a.defaults.map dvE, []⟩]
  | _ => []
def fnL : List He.DefD := PySem.Challenge.pw_rankweights_k31_limits_and_chains_told.main.body.flatMap dd1
def fa : List He.Fa := [.free "len",
  .free "range",
  .free "isinstance",
  .free "int",
  .free "str",
  .free "tuple",
  .free "list",
  .free "bool",
  .free "repr",
  .free "enumerate",
  .free "zip",
  .free "sorted",
  .free "set",
  .free "all",
  .free "any",
  .free "super",
  .free "ValueError",
  .glo "is_integer",
  .glo "is_number",
  .glo "is_name",
  .glo "is_pair",
  .glo "is_sign",
  .glo "is_hole",
  .glo "places_by",
  .glo "rows_of",
  .glo "terms_in",
  .glo "holes_of",
  .glo "counts_by",
  .glo "unit_at",
  .glo "limits_by",
  .glo "form_by",
  .glo "has_more_holes",
  .glo "first_end",
  .glo "shape_by",
  .glo "end_under",
  .glo "chain_by",
  .glo "is_rank_of",
  .glo "book_fault",
  .glo "is_book",
  .glo "want",
  .glo "want_book",
  .glo "is_headed",
  .glo "term_fault",
  .glo "is_term_by",
  .glo "is_rule_by",
  .glo "is_rule",
  .glo "want_rule",
  .glo "want_rank",
  .glo "limits_of",
  .glo "chain_of",
  .glo "_law_feed",
  .glo "_law_draw",
  .glo "_law_chains",
  .glo "_law_are_limits",
  .glo "_law_led",
  .glo "_law_is_right",
  .glo "law",
  .int "MOST_LETTERS" (8),
  .int "MOST_PLACES" (3),
  .str "LETTERS" "abcdefghijklmnopqrstuvwxyz",
  .str "GOOD" "good"]
def cw (x : Str) (a b c d : List Str) (e : Bool) : Str × List Str × List Str × List Str × List Str × Bool := (x, a, b, c, d, e)
def cfgT : List (Str × List Str × List Str × List Str × List Str × Bool) := [
  cw "is_integer" ["thing"] [] [] [] false,
  cw "is_number" ["thing"] [] [] [] false,
  cw "is_name" ["thing", "sign"] [] [] [] false,
  cw "is_pair" ["thing"] [] [] [] false,
  cw "is_sign" ["thing"] [] [] [] false,
  cw "is_hole" ["thing"] [] [] [] false,
  cw "places_by" ["book", "name", "places"] [] [] [] false,
  cw "rows_of" ["term", "found", "k", "part", "path", "late"] ["found"] [] [] false,
  cw "terms_in" ["term", "path", "late"] [] [] [] false,
  cw "holes_of" ["term", "late"] [] [] [] false,
  cw "counts_by" ["book", "term", "heads", "late", "name", "places"] [] [] [] false,
  cw "unit_at" ["many", "k", "less", "j"] [] [] [] false,
  cw "limits_by" ["book", "rank", "many", "found", "k", "name", "places", "form"] ["found"] [] [] false,
  cw "form_by" ["book", "one", "other", "many", "less"] [] [] [] false,
  cw "has_more_holes" ["one", "other", "mine", "others", "hole"] [] [] [] false,
  cw "first_end" ["one", "other"] [] [] [] false,
  cw "shape_by" ["book", "rule", "one", "other", "forms", "end", "mine", "others"] ["forms"] [] [] false,
  cw "end_under" ["rank", "end"] [] [] [] false,
  cw "chain_by" ["book", "rank", "rule", "forms", "end"] [] [] [] false,
  cw "is_rank_of" ["book", "thing", "name", "places"] [] [] [] false,
  cw "book_fault" ["thing", "k", "sign", "name", "places"] [] [] [] false,
  cw "is_book" ["thing"] [] [] [] false,
  cw "want" ["is_right", "word", "at"] [] [] [] false,
  cw "want_book" ["book"] [] [] [] false,
  cw "is_headed" ["places", "thing"] [] [] [] false,
  cw "term_fault" ["places", "thing", "k", "part", "path"] [] [] [] false,
  cw "is_term_by" ["places", "thing"] [] [] [] false,
  cw "is_rule_by" ["places", "thing"] [] [] [] false,
  cw "is_rule" ["book", "thing"] [] [] [] false,
  cw "want_rule" ["book", "rule"] [] [] [] false,
  cw "want_rank" ["book", "rank"] [] [] [] false,
  cw "limits_of" ["book", "rank"] [] [] [] false,
  cw "chain_of" ["book", "rank", "rule"] [] [] [] false,
  cw "_law_feed" ["_law_script"] [] [] [] true,
  cw "_law_draw" ["_law_feed_here", "_law_many", "_law_turn", "_law_cell", "_law_mixed", "_law_figure"] [] [] [] false,
  cw "_law_chains" ["_law_none", "_law_one", "_law_plain", "_law_flat", "_law_found", "_law_deep", "_law_part", "_law_lost", "_law_last"] ["_law_found"] [] [] false,
  cw "_law_are_limits" ["_law_base", "_law_wide", "_law_due", "_law_late", "_law_told", "_law_far"] [] [] [] false,
  cw "_law_led" ["_law_table", "_law_term", "_law_part"] [] [] [] false,
  cw "_law_is_right" ["_law_feed_here", "_law_base", "_law_tie", "_law_dues", "_law_some", "_law_table", "_law_hole", "_law_far", "_law_begun", "_law_rung", "_law_due", "_law_told"] ["_law_some", "_law_table"] [] [] false,
  cw "law" ["_law_script", "_law_feed_here", "_law_base", "_law_tie", "_law_due", "_law_late", "_law_wide", "_law_one", "_law_other", "_law_told"] [] [] [] false]
def cfg (x : Str) : Cy.Cf := match cfgT.lookup x with
  | some (a, b, c, d, e) => ⟨a.map Cy.nmOf, b.map Cy.nmOf, c.map Cy.nmOf, d.map Cy.nmOf, e⟩
  | none => ⟨[], [], [], [], false⟩
def L : Cy.Lib := ⟨fa, fnL.map fun d => (d, cfg d.name), 60⟩
theorem plain_all : L.ds.all (Cy.plainD L) = true := by decide +kernel
theorem tab_all : L.ds.map (fun d => (Cy.nmOf d.1.name, L.fn d)) = Cy.tabL := by kernel_rfl
theorem tab_eq : L.tab = Cy.tab := by
  funext x
  have key : ∀ l : List Cy.Dc, l.all (Cy.plainD L) = true → (l.find? fun d => decide (Cy.nmOf d.1.name = x) && Cy.plainD L d).map L.fn = (l.map fun d => (Cy.nmOf d.1.name, L.fn d)).lookup x := by
    intro l
    induction l with
    | nil => intro _; rfl
    | cons d l ih =>
      intro h
      rw [List.all_cons, Bool.and_eq_true] at h
      rw [List.find?_cons, List.map_cons, List.lookup_cons]
      by_cases e : Cy.nmOf d.1.name = x
      · have e2 : (x == Cy.nmOf d.1.name) = true := by rw [e]; exact beq_self_eq_true x
        simp [e, h.1]
      · have e2 : (x == Cy.nmOf d.1.name) = false := beq_eq_false_iff_ne.mpr fun z => e z.symm
        simp only [e, decide_false, Bool.false_and, e2]
        exact ih h.2
  have := key L.ds plain_all
  rw [tab_all] at this
  exact this
end Hd

set_option Elab.async false
set_option linter.all false
set_option maxRecDepth 100000
set_option maxHeartbeats 0
namespace Hd
open PySem PySem.Spec PyProof.Rows L2
def loose0 : List PySem.Str := ["LETTERS", "MOST_LETTERS", "MOST_PLACES", "is_integer", "is_number", "is_name", "is_pair", "is_sign", "is_hole", "places_by", "rows_of", "terms_in", "holes_of", "counts_by", "GOOD", "unit_at", "limits_by", "form_by", "has_more_holes", "first_end", "shape_by", "end_under", "chain_by", "is_rank_of", "RankError", "TermError", "NotUsable", "book_fault", "is_book", "want"]
def loose1 : List PySem.Str := ["want_book", "is_headed", "term_fault", "is_term_by", "is_rule_by", "is_rule", "want_rule", "want_rank", "limits_of", "chain_of", "_law_feed", "_law_draw", "_law_chains", "_law_are_limits", "_law_led", "_law_is_right"]
def loose : List PySem.Str := loose0 ++ loose1
abbrev Rw : PySem.W.OpenRow := PySem.W.OpenLaw.row PySem.Challenge.rw_rankweights_k31_limits_and_chains_told
abbrev hk : PySem.W.Hook := He.hookD 4 L.fa (L.ds.map (·.1))
def ob (s : PySem.W.SharedT) : He.AlD := He.obsDG 4 L.fa (L.ds.map (·.1)) (HandSHeadRun.getT s)
theorem ob_eq (s : PySem.W.SharedT) : ob s = hk.obs s.abs := He.obsDG_eq (HandSHeadRun.getT_eq s)
theorem run (w : World) : HandSHeadRun.RunEq Rw (PySem.W.view Rw.prog [58]) hk ob 4000 loose w := by
  intro os
  kernel_rfl
def lawNm : Cy.Nm := [108, 97, 119]
def lawDc : Cy.Dc := (L.find lawNm).get (by kernel_rfl)
theorem law_find : L.find lawNm = some lawDc := by kernel_rfl
end Hd
open PySem PySem.W PySem.Calls PyProof.Rows
theorem PySem.Challenge.cw_rankweights_k31_limits_and_chains_told_holds : PySem.Challenge.rw_rankweights_k31_limits_and_chains_told.Holds := by
  w_on; o_law
  refine HandSHeadRun.head_any (r := OpenLaw.row PySem.Challenge.rw_rankweights_k31_limits_and_chains_told) (q := view (OpenLaw.row PySem.Challenge.rw_rankweights_k31_limits_and_chains_told).prog [58]) (H := Hd.hk) (ob := Hd.ob) (M := 4000) (loose := Hd.loose) (d := HandSHeadRun.topDef (OpenLaw.row PySem.Challenge.rw_rankweights_k31_limits_and_chains_told).prog 58) (kwd := []) Hd.ob_eq
    (by kernel_rfl) (fun s => by kernel_rfl) Hd.run (by kernel_rfl) (by kernel_rfl) (by kernel_rfl) (by rfl) (by first | assumption | decide +kernel) (by decide +kernel) ⟨rfl, rfl, rfl, rfl, rfl, by decide +kernel⟩ ?hw ?hc
  case hw => w_witness2
  case hc =>
    exact Cy.law_of (l := PySem.Challenge.rw_rankweights_k31_limits_and_chains_told) (m := 63) (n := 39) (x := "_law_script") Hd.L rfl (by decide) (by kernel_rfl) ⟨rfl, by decide, by decide⟩ Hd.lawDc (by kernel_rfl) (by kernel_rfl) (by kernel_rfl) fun ns hl _ => by
      have e : Cy.nmOf (HandSHeadRun.topDef (OpenLaw.row PySem.Challenge.rw_rankweights_k31_limits_and_chains_told).prog 58).name = Hd.lawNm := by kernel_rfl
      rw [e, Hd.tab_eq]
      exact Cy.law_run ns hl
